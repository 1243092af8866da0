/- Go functions as plain Lean functions, and that the Go code answers just as these, wherever they answer. Conditions: those of each theorem. Written by a program of this session (wip/patch.py). -/
import Derived.Test.YtnokdjkkgcpbdacPrint0
import Derived.Test.YtnokdjkkgcpbdacPrintImplFits
import Derived.Test.YtnokdjkkgcpbdacPrintImplShareOk
import Derived.Test.YtnokdjkkgcpbdacPrintLawsBig
import Derived.Test.YtnokdjkkgcpbdacPrintSpecDrawShareLess
import Derived.Test.YtnokdjkkgcpbdacPrintSpecL1In
namespace Go.Proofs.Ytnokdjkkgcpbdac.Print
open Go.RowKit Go.Proofs.Ytnokdjkkgcpbdac.Base Go.Proofs.YtnokdjkkgcpbdacW.PrintWords Go.Proofs.YtnokdjkkgcpbdacW.PrintLast Go.Proofs.YtnokdjkkgcpbdacW.PrintMore
attribute [local go_sem] max2_int min2_int max_two min_two max_three min_three max_four min_four   -- for this text's walks alone
set_option linter.unusedVariables false
set_option linter.unusedSimpArgs false

/-! ### laws_FnOrder: function 8 -/
def laws_FnOrder.j0 : Nat → List Int → Bool → Bool → Int → Int → Int → Int → Option (Bool)
  | 0, _, _, _, _, _, _, _ => none
  | k + 1, x0, x5, x41, x107000, x107001, x108000, x108001 => if x41 = true then (some false) else (if x5 = true then ((laws_at.f x0 1).bind fun t117 => ((impl_ShareOk.f x107000 x107001).bind fun t119 => (if t119 = true then ((impl_ShareOk.f x108000 x108001).bind fun t120 => (if t120 = true then ((impl_Fits.f k (([(⟨x108000, x108001⟩ : S50), (⟨1, wrap64 (2 + (Int.tmod t117 5))⟩ : S50)] : List (S50)))).bind fun t124 => (if t124 = true then ((impl_Fits.f k (([(⟨x107000, x107001⟩ : S50), (⟨1, wrap64 (2 + (Int.tmod t117 5))⟩ : S50)] : List (S50)))).bind fun t128 => (some t128)) else (some true))) else (some false))) else (some false)))) else (some true))
def laws_FnOrder.f (k : Nat) (l0 : List Int) : Option (Bool) := (laws_big.f l0).bind fun t101 => (if t101 = true then (some true) else ((spec_DrawShareLess.f k l0).bind fun bt102 => ((impl_ShareLess.f bt102.1 bt102.2.1 bt102.2.2.1 bt102.2.2.2).bind fun t108 => ((spec_ShareLess.f bt102.1 bt102.2.1 bt102.2.2.1 bt102.2.2.2).bind fun t109 => (if (t108 != t109) = true then (laws_FnOrder.j0 k l0 t108 true bt102.1 bt102.2.1 bt102.2.2.1 bt102.2.2.2) else (if t108 = true then ((impl_ShareLess.f bt102.2.2.1 bt102.2.2.2 bt102.1 bt102.2.1).bind fun t110 => (if t110 = true then (laws_FnOrder.j0 k l0 t108 true bt102.1 bt102.2.1 bt102.2.2.1 bt102.2.2.2) else ((impl_ShareLess.f bt102.1 bt102.2.1 bt102.1 bt102.2.1).bind fun t111 => (if t111 = true then (laws_FnOrder.j0 k l0 t108 true bt102.1 bt102.2.1 bt102.2.2.1 bt102.2.2.2) else ((impl_ShareOk.f bt102.1 bt102.2.1).bind fun t112 => ((spec_ShareOk.f bt102.1 bt102.2.1).bind fun t113 => (laws_FnOrder.j0 k l0 t108 (t112 != t113) bt102.1 bt102.2.1 bt102.2.2.1 bt102.2.2.2))))))) else ((impl_ShareLess.f bt102.1 bt102.2.1 bt102.1 bt102.2.1).bind fun t114 => (if t114 = true then (laws_FnOrder.j0 k l0 t108 true bt102.1 bt102.2.1 bt102.2.2.1 bt102.2.2.2) else ((impl_ShareOk.f bt102.1 bt102.2.1).bind fun t115 => ((spec_ShareOk.f bt102.1 bt102.2.1).bind fun t116 => (laws_FnOrder.j0 k l0 t108 (t115 != t116) bt102.1 bt102.2.1 bt102.2.2.1 bt102.2.2.2)))))))))))
theorem laws_FnOrder.mono_l : ∀ k, (∀ y0 y1 y2 y3 y4 y5 y6, LeO (laws_FnOrder.j0 k y0 y1 y2 y3 y4 y5 y6) (laws_FnOrder.j0 (k + 1) y0 y1 y2 y3 y4 y5 y6))
  | 0 => fun _ _ _ _ _ _ _ r h => by simp [laws_FnOrder.j0] at h
  | k + 1 => by
    have ih0 := laws_FnOrder.mono_l k
    intro y0 y1 y2 y3 y4 y5 y6
    unfold laws_FnOrder.j0
    repeat' first
    | (with_reducible exact ih0 _ _ _ _ _ _ _)
    | (with_reducible exact impl_Fits.mono _ _)
    | (with_reducible exact spec_DrawShareLess.mono _ _)
    | (with_reducible exact LeO.refl _)
    | (with_reducible exact LeO.none _)
    | (with_reducible refine LeO.ite ?_ ?_)
    | (with_reducible refine LeO.bind ?_ (fun _ => ?_))
    | exact ih0 _ _ _ _ _ _ _
    | exact impl_Fits.mono _ _
    | exact spec_DrawShareLess.mono _ _
    | exact LeO.none _
    | refine LeO.ite ?_ ?_
    | refine LeO.bind ?_ (fun _ => ?_)
theorem laws_FnOrder.mono : ∀ a0 k, LeO (laws_FnOrder.f k a0) (laws_FnOrder.f (k + 1) a0) := by
  intro a0 k
  have ih0 := laws_FnOrder.mono_l k
  unfold laws_FnOrder.f
  repeat' first
      | (with_reducible exact ih0 _ _ _ _ _ _ _)
      | (with_reducible exact impl_Fits.mono _ _)
      | (with_reducible exact spec_DrawShareLess.mono _ _)
      | (with_reducible exact LeO.refl _)
      | (with_reducible exact LeO.none _)
      | (with_reducible refine LeO.ite ?_ ?_)
      | (with_reducible refine LeO.bind ?_ (fun _ => ?_))
      | exact ih0 _ _ _ _ _ _ _
      | exact impl_Fits.mono _ _
      | exact spec_DrawShareLess.mono _ _
      | exact LeO.none _
      | refine LeO.ite ?_ ?_
      | refine LeO.bind ?_ (fun _ => ?_)
def laws_FnOrder.T5 : Bool × List (List Nat × List Nat) := (true, [([], []), ([], []), ([], []), ([1, 2], [1, 2]), ([0, 3], [0, 3]), ([4, 3], [4]), ([5], [5]), ([6, 5, 5], [5, 6]), ([7], [7]), ([7], [7]), ([8, 9, 7, 7], [7, 8, 9]), ([7, 10, 5], [5, 7, 10]), ([5, 11], [5, 11]), ([12, 10], [12]), ([13], [13]), ([13], [13]), ([14, 15, 13, 13], [13, 14, 15]), ([13, 16], [13, 16]), ([17, 16], [17]), ([18], [18]), ([19, 18, 18], [18, 19]), ([18], [18]), ([21, 20, 18], [18, 21]), ([20, 22, 18], [18, 20, 22]), ([18, 23], [18, 23])])
def laws_FnOrder.B5 : List Nat := [0, 0, 0, 6, 15, 31, 63, 127, 255, 255, 1023, 2047, 4095, 8191, 16383, 16383, 65535, 131071, 262143, 524287, 1048575, 524287, 4194303, 8388607, 16777215]
theorem laws_FnOrder.tab5 : rtab .any (opsOf Try.f8 5) = laws_FnOrder.T5 := by kernel_rfl
theorem laws_FnOrder.bits5 : waitsOk laws_FnOrder.T5.2 laws_FnOrder.B5 = true := by kernel_rfl
set_option maxHeartbeats 8000000 in
set_option maxRecDepth 100000 in
theorem laws_FnOrder.calls (k : Nat) (A0 : Option Addr) (c0 : Nat) (l0 : List Int) (r : Bool) (w : World) (hr0 : Kd.C (Kd.int .u8) w A0 l0.length l0) (hc0 : l0.length ≤ c0) (h : laws_FnOrder.f k l0 = some r) :
    Calls Try.prog 8 #[.slice A0 l0.length c0] w fun e w' => e = .returned (.bool r) ∧ Below w.heap.size w w' := by
  have hu50 := Try.underlying50
  have HR0 := Aside0.mk hr0
  have HC0 := Aside0.mk hc0
  clear hr0 hc0
  have HB := aM (Below.refl w.heap.size w)
  have H : ((laws_big.f l0).bind fun t101 => (if t101 = true then (some true) else ((spec_DrawShareLess.f k l0).bind fun bt102 => ((impl_ShareLess.f bt102.1 bt102.2.1 bt102.2.2.1 bt102.2.2.2).bind fun t108 => ((spec_ShareLess.f bt102.1 bt102.2.1 bt102.2.2.1 bt102.2.2.2).bind fun t109 => (if (t108 != t109) = true then (laws_FnOrder.j0 k l0 t108 true bt102.1 bt102.2.1 bt102.2.2.1 bt102.2.2.2) else (if t108 = true then ((impl_ShareLess.f bt102.2.2.1 bt102.2.2.2 bt102.1 bt102.2.1).bind fun t110 => (if t110 = true then (laws_FnOrder.j0 k l0 t108 true bt102.1 bt102.2.1 bt102.2.2.1 bt102.2.2.2) else ((impl_ShareLess.f bt102.1 bt102.2.1 bt102.1 bt102.2.1).bind fun t111 => (if t111 = true then (laws_FnOrder.j0 k l0 t108 true bt102.1 bt102.2.1 bt102.2.2.1 bt102.2.2.2) else ((impl_ShareOk.f bt102.1 bt102.2.1).bind fun t112 => ((spec_ShareOk.f bt102.1 bt102.2.1).bind fun t113 => (laws_FnOrder.j0 k l0 t108 (t112 != t113) bt102.1 bt102.2.1 bt102.2.2.1 bt102.2.2.2))))))) else ((impl_ShareLess.f bt102.1 bt102.2.1 bt102.1 bt102.2.1).bind fun t114 => (if t114 = true then (laws_FnOrder.j0 k l0 t108 true bt102.1 bt102.2.1 bt102.2.2.1 bt102.2.2.2) else ((impl_ShareOk.f bt102.1 bt102.2.1).bind fun t115 => ((spec_ShareOk.f bt102.1 bt102.2.1).bind fun t116 => (laws_FnOrder.j0 k l0 t108 (t115 != t116) bt102.1 bt102.2.1 bt102.2.2.1 bt102.2.2.2)))))))))))) = some r := h
  clear h
  replace H := Option.bind_eq_some_iff.mp H
  obtain ⟨t101, A20, H⟩ := H
  replace H : (if t101 = true then (some true) else ((spec_DrawShareLess.f k l0).bind fun bt102 => ((impl_ShareLess.f bt102.1 bt102.2.1 bt102.2.2.1 bt102.2.2.2).bind fun t108 => ((spec_ShareLess.f bt102.1 bt102.2.1 bt102.2.2.1 bt102.2.2.2).bind fun t109 => (if (t108 != t109) = true then (laws_FnOrder.j0 k l0 t108 true bt102.1 bt102.2.1 bt102.2.2.1 bt102.2.2.2) else (if t108 = true then ((impl_ShareLess.f bt102.2.2.1 bt102.2.2.2 bt102.1 bt102.2.1).bind fun t110 => (if t110 = true then (laws_FnOrder.j0 k l0 t108 true bt102.1 bt102.2.1 bt102.2.2.1 bt102.2.2.2) else ((impl_ShareLess.f bt102.1 bt102.2.1 bt102.1 bt102.2.1).bind fun t111 => (if t111 = true then (laws_FnOrder.j0 k l0 t108 true bt102.1 bt102.2.1 bt102.2.2.1 bt102.2.2.2) else ((impl_ShareOk.f bt102.1 bt102.2.1).bind fun t112 => ((spec_ShareOk.f bt102.1 bt102.2.1).bind fun t113 => (laws_FnOrder.j0 k l0 t108 (t112 != t113) bt102.1 bt102.2.1 bt102.2.2.1 bt102.2.2.2))))))) else ((impl_ShareLess.f bt102.1 bt102.2.1 bt102.1 bt102.2.1).bind fun t114 => (if t114 = true then (laws_FnOrder.j0 k l0 t108 true bt102.1 bt102.2.1 bt102.2.2.1 bt102.2.2.2) else ((impl_ShareOk.f bt102.1 bt102.2.1).bind fun t115 => ((spec_ShareOk.f bt102.1 bt102.2.1).bind fun t116 => (laws_FnOrder.j0 k l0 t108 (t115 != t116) bt102.1 bt102.2.1 bt102.2.2.1 bt102.2.2.2))))))))))) = some r := H
  have A2 := Aside0.mk A20
  clear A20
  by_cases c3 : t101 = true
  · subst c3
    have H1 : (some true) = some r := by rw [if_pos rfl] at H; exact H
    clear H
    have H := H1
    clear H1
    obtain rfl := Option.some.inj H
    go_enter Try.func8, Try.ntmps8
    go_wp2_with (first | ((with_reducible refine gate_callee (f := 15) rfl ?_); refine goesL_ (some 8) rfl rfl Try.func15 (by kernel_rfl) rfl #[.slice A0 l0.length c0] rfl (by (try simp only [List.map_toArray, List.map_cons, List.map_nil]); first | done | rfl | (simp only [List.length_drop, List.length_take]; rfl)) ?_; (with_reducible refine (laws_big.calls _ _ l0 true _ ?side1 ?side2 A2.out).mono ?_); (case side1 => repeat (first | exact HR0.out | (with_reducible refine Kd.C_alloc ?_ _) | (with_reducible refine Kd.C_drewN ?_ _) | (with_reducible refine Kd.C_drew ?_))); (case side2 => exact HC0.out); rintro e w' ⟨rfl, ⟨nd, rfl⟩⟩; refine ⟨_, rfl, ?_⟩))
    go_ret
    exact ⟨by first | rfl | (simp <;> rfl) | (simp [*] <;> rfl), by repeat (first | (with_reducible first | exact HB.out | apply beA | apply beD | apply bed) | exact HB.out)⟩
  replace c3 := Bool.eq_false_iff.mpr c3
  subst c3
  have H1 : ((spec_DrawShareLess.f k l0).bind fun bt102 => ((impl_ShareLess.f bt102.1 bt102.2.1 bt102.2.2.1 bt102.2.2.2).bind fun t108 => ((spec_ShareLess.f bt102.1 bt102.2.1 bt102.2.2.1 bt102.2.2.2).bind fun t109 => (if (t108 != t109) = true then (laws_FnOrder.j0 k l0 t108 true bt102.1 bt102.2.1 bt102.2.2.1 bt102.2.2.2) else (if t108 = true then ((impl_ShareLess.f bt102.2.2.1 bt102.2.2.2 bt102.1 bt102.2.1).bind fun t110 => (if t110 = true then (laws_FnOrder.j0 k l0 t108 true bt102.1 bt102.2.1 bt102.2.2.1 bt102.2.2.2) else ((impl_ShareLess.f bt102.1 bt102.2.1 bt102.1 bt102.2.1).bind fun t111 => (if t111 = true then (laws_FnOrder.j0 k l0 t108 true bt102.1 bt102.2.1 bt102.2.2.1 bt102.2.2.2) else ((impl_ShareOk.f bt102.1 bt102.2.1).bind fun t112 => ((spec_ShareOk.f bt102.1 bt102.2.1).bind fun t113 => (laws_FnOrder.j0 k l0 t108 (t112 != t113) bt102.1 bt102.2.1 bt102.2.2.1 bt102.2.2.2))))))) else ((impl_ShareLess.f bt102.1 bt102.2.1 bt102.1 bt102.2.1).bind fun t114 => (if t114 = true then (laws_FnOrder.j0 k l0 t108 true bt102.1 bt102.2.1 bt102.2.2.1 bt102.2.2.2) else ((impl_ShareOk.f bt102.1 bt102.2.1).bind fun t115 => ((spec_ShareOk.f bt102.1 bt102.2.1).bind fun t116 => (laws_FnOrder.j0 k l0 t108 (t115 != t116) bt102.1 bt102.2.1 bt102.2.2.1 bt102.2.2.2)))))))))) = some r := by rw [if_neg (show ¬ (false = true) by decide)] at H; exact H
  clear H
  have H := H1
  clear H1
  replace H := Option.bind_eq_some_iff.mp H
  obtain ⟨⟨t102, t103, t104, t105⟩, A40, H⟩ := H
  replace H : ((impl_ShareLess.f t102 t103 t104 t105).bind fun t108 => ((spec_ShareLess.f t102 t103 t104 t105).bind fun t109 => (if (t108 != t109) = true then (laws_FnOrder.j0 k l0 t108 true t102 t103 t104 t105) else (if t108 = true then ((impl_ShareLess.f t104 t105 t102 t103).bind fun t110 => (if t110 = true then (laws_FnOrder.j0 k l0 t108 true t102 t103 t104 t105) else ((impl_ShareLess.f t102 t103 t102 t103).bind fun t111 => (if t111 = true then (laws_FnOrder.j0 k l0 t108 true t102 t103 t104 t105) else ((impl_ShareOk.f t102 t103).bind fun t112 => ((spec_ShareOk.f t102 t103).bind fun t113 => (laws_FnOrder.j0 k l0 t108 (t112 != t113) t102 t103 t104 t105))))))) else ((impl_ShareLess.f t102 t103 t102 t103).bind fun t114 => (if t114 = true then (laws_FnOrder.j0 k l0 t108 true t102 t103 t104 t105) else ((impl_ShareOk.f t102 t103).bind fun t115 => ((spec_ShareOk.f t102 t103).bind fun t116 => (laws_FnOrder.j0 k l0 t108 (t115 != t116) t102 t103 t104 t105))))))))) = some r := H
  have A4 := Aside0.mk A40
  clear A40
  replace H := Option.bind_eq_some_iff.mp H
  obtain ⟨t108, A50, H⟩ := H
  replace H : ((spec_ShareLess.f t102 t103 t104 t105).bind fun t109 => (if (t108 != t109) = true then (laws_FnOrder.j0 k l0 t108 true t102 t103 t104 t105) else (if t108 = true then ((impl_ShareLess.f t104 t105 t102 t103).bind fun t110 => (if t110 = true then (laws_FnOrder.j0 k l0 t108 true t102 t103 t104 t105) else ((impl_ShareLess.f t102 t103 t102 t103).bind fun t111 => (if t111 = true then (laws_FnOrder.j0 k l0 t108 true t102 t103 t104 t105) else ((impl_ShareOk.f t102 t103).bind fun t112 => ((spec_ShareOk.f t102 t103).bind fun t113 => (laws_FnOrder.j0 k l0 t108 (t112 != t113) t102 t103 t104 t105))))))) else ((impl_ShareLess.f t102 t103 t102 t103).bind fun t114 => (if t114 = true then (laws_FnOrder.j0 k l0 t108 true t102 t103 t104 t105) else ((impl_ShareOk.f t102 t103).bind fun t115 => ((spec_ShareOk.f t102 t103).bind fun t116 => (laws_FnOrder.j0 k l0 t108 (t115 != t116) t102 t103 t104 t105)))))))) = some r := H
  have A5 := Aside0.mk A50
  clear A50
  have HC6 := Aside0.mk H
  clear H
  go_enter Try.func8, Try.ntmps8
  go_upto_region 5 with (first | ((with_reducible refine gate_callee (f := 15) rfl ?_); refine goesL_ (some 8) rfl rfl Try.func15 (by kernel_rfl) rfl #[.slice A0 l0.length c0] rfl (by (try simp only [List.map_toArray, List.map_cons, List.map_nil]); first | done | rfl | (simp only [List.length_drop, List.length_take]; rfl)) ?_; (with_reducible refine (laws_big.calls _ _ l0 false _ ?side1 ?side2 A2.out).mono ?_); (case side1 => repeat (first | exact HR0.out | (with_reducible refine Kd.C_alloc ?_ _) | (with_reducible refine Kd.C_drewN ?_ _) | (with_reducible refine Kd.C_drew ?_))); (case side2 => exact HC0.out); rintro e w' ⟨rfl, ⟨nd, rfl⟩⟩; refine ⟨_, rfl, ?_⟩) | ((with_reducible refine gate_callee (f := 45) rfl ?_); refine goesL_ (some 11) rfl rfl Try.func45 (by kernel_rfl) rfl #[.slice A0 l0.length c0] rfl (by (try simp only [List.map_toArray, List.map_cons, List.map_nil]); first | done | rfl | (simp only [List.length_drop, List.length_take]; rfl)) ?_; (with_reducible refine (spec_DrawShareLess.calls k _ _ l0 t102 t103 t104 t105 _ ?side1 ?side2 A4.out).mono ?_); (case side1 => repeat (first | exact HR0.out | (with_reducible refine Kd.C_alloc ?_ _) | (with_reducible refine Kd.C_drewN ?_ _) | (with_reducible refine Kd.C_drew ?_))); (case side2 => exact HC0.out); rintro e w7 ⟨rfl, hb⟩; refine ⟨_, rfl, ?_⟩; have n0_ := aM (below_step (by repeat (first | (with_reducible first | exact HB.out | apply beA | apply beD | apply bed) | exact HB.out)) hb); clear HB; have HB := n0_; clear n0_; (try clear hb); (try clear hb2); (try clear hk); (try clear hi)) | ((with_reducible refine gate_dst (N := 3) rfl ?_); (try (refine gate_guard (by rfl) ?_; dsimp only)); refine box_event ?hg (N := 3) ?hd (cs := #[.int .i64 0, .int .i64 0]) (t := 50) ?hr ?_; (case hd => rfl); (case hg => rfl); (case hr => first | (go_simp; done) | (go_simp; rfl)); intro gb106 hg w8 hbox hb; have n0_ := aM (below_step (by repeat (first | (with_reducible first | exact HB.out | apply beA | apply beD | apply bed) | exact HB.out)) hb); have n1_ := aM (hbox); have n2_ := aM ((by rw [hg]; exact (below_size (by repeat (first | (with_reducible first | exact HB.out | apply beA | apply beD | apply bed) | exact HB.out))) : w.heap.size ≤ gb106)); have n3_ := n2_; clear HB; have HB := n0_; have BK106 := n1_; have GW106 := n2_; have GE106 := n3_; clear n0_ n1_ n2_ n3_; clear hb hbox hg) | ((with_reducible refine gate_dst (N := 4) rfl ?_); (try (refine gate_guard (by rfl) ?_; dsimp only)); refine box_event ?hg (N := 4) ?hd (cs := #[.int .i64 0, .int .i64 0]) (t := 50) ?hr ?_; (case hd => rfl); (case hg => rfl); (case hr => first | (go_simp; done) | (go_simp; rfl)); intro gb107 hg w9 hbox hb; have n0_ := aM (blk_below (g := gb106) (o := .cells #[.int .i64 0, .int .i64 0] 50 (0, 0)) (by (with_reducible repeat (first | apply bkD | apply bkd | apply bkA)); exact BK106.out) hb); have n1_ := aM (below_step (by repeat (first | (with_reducible first | exact HB.out | apply beA | apply beD | apply bed | refine beS ?_ GE106.out) | exact HB.out)) hb); have n2_ := aM (hbox); have n3_ := aM ((by rw [hg]; exact (below_size (by repeat (first | (with_reducible first | exact HB.out | apply beA | apply beD | apply bed | refine beS ?_ GE106.out) | exact HB.out))) : w.heap.size ≤ gb107)); have n4_ := n3_; have n5_ := aM ((by rw [hg]; exact Nat.ne_of_lt (blk_lt (g := gb106) (o := .cells #[.int .i64 0, .int .i64 0] 50 (0, 0)) (by (with_reducible repeat (first | apply bkD | apply bkd | apply bkA)); exact BK106.out)) : gb106 ≠ gb107)); have n6_ := aM (n5_.out.symm); clear BK106; clear HB; have BK106 := n0_; have HB := n1_; have BK107 := n2_; have GW107 := n3_; have GE107 := n4_; have NB106_107 := n5_; have NB107_106 := n6_; clear n0_ n1_ n2_ n3_ n4_ n5_ n6_; clear hb hbox hg; have hnb10 := NB106_107.out; have hnc10 := NB107_106.out; obtain ⟨hcz11_0, hcz11_1⟩ := cz2 BK106.out; have hfz11_0 := blk_frozen BK106.out; obtain ⟨hcz12_0, hcz12_1⟩ := cz2 BK107.out; have hfz12_0 := blk_frozen BK107.out) | ((with_reducible refine gate_callee (f := 46) rfl ?_); refine goesL_ (some 16) rfl rfl Try.func46 (by kernel_rfl) rfl #[.agg #[.int .i64 t102, .int .i64 t103], .agg #[.int .i64 t104, .int .i64 t105]] rfl (by (try simp only [List.map_toArray, List.map_cons, List.map_nil]); first | done | rfl | (simp only [List.length_drop, List.length_take]; rfl)) ?_; (with_reducible refine (impl_ShareLess.calls t102 t103 t104 t105 t108 _ A5.out).mono ?_); rintro e w13 ⟨rfl, hb⟩; refine ⟨_, rfl, ?_⟩; have n0_ := aM (blk_below (g := gb106) (o := .cells #[.int .i64 t102, .int .i64 t103] 50 (0, 0)) (by (with_reducible repeat (first | apply bkD | apply bkd | apply bkA)); refine blk_far ?_ NB106_107.out _; (with_reducible repeat (first | apply bkD | apply bkd | apply bkA)); refine blk_far ?_ NB106_107.out _; (with_reducible repeat (first | apply bkD | apply bkd | apply bkA)); refine blk_put (cs := #[.int .i64 t102, .int .i64 0]) ?_ 1 _ rfl; (with_reducible repeat (first | apply bkD | apply bkd | apply bkA)); refine blk_put (cs := #[.int .i64 0, .int .i64 0]) ?_ 0 _ rfl; (with_reducible repeat (first | apply bkD | apply bkd | apply bkA)); exact BK106.out) hb); have n1_ := aM (blk_below (g := gb107) (o := .cells #[.int .i64 t104, .int .i64 t105] 50 (0, 0)) (by (with_reducible repeat (first | apply bkD | apply bkd | apply bkA)); refine blk_put (cs := #[.int .i64 t104, .int .i64 0]) ?_ 1 _ rfl; (with_reducible repeat (first | apply bkD | apply bkd | apply bkA)); refine blk_put (cs := #[.int .i64 0, .int .i64 0]) ?_ 0 _ rfl; (with_reducible repeat (first | apply bkD | apply bkd | apply bkA)); refine blk_far ?_ NB107_106.out _; (with_reducible repeat (first | apply bkD | apply bkd | apply bkA)); refine blk_far ?_ NB107_106.out _; (with_reducible repeat (first | apply bkD | apply bkd | apply bkA)); exact BK107.out) hb); have n2_ := aM (below_step (by repeat (first | (with_reducible first | exact HB.out | apply beA | apply beD | apply bed | refine beS ?_ GE106.out | refine beS ?_ GE107.out) | exact HB.out)) hb); clear BK106; clear BK107; clear HB; have BK106 := n0_; have BK107 := n1_; have HB := n2_; clear n0_ n1_ n2_; (try clear hb); (try clear hb2); (try clear hk); (try clear hi)))
  (try simp only [Act.put, List.setIfInBounds_toArray, List.set_cons_zero, List.set_cons_succ])
  go_cut [41] (fun v41 wc => ∃ (kq : Nat) (x41_5 : Bool), v41 = .bool x41_5 ∧ Aside0 (laws_FnOrder.j0 kq l0 t108 x41_5 t102 t103 t104 t105 = some r) ∧ Aside0 (kq ≤ k) ∧ Aside0 (wc.heap[gb106]? = some (.cells #[.int .i64 t102, .int .i64 t103] 50 (0, 0))) ∧ Aside0 (wc.heap[gb107]? = some (.cells #[.int .i64 t104, .int .i64 t105] 50 (0, 0))) ∧ Aside0 (Below w.heap.size w wc))
  case first =>
    have H := HC6.out
    clear HC6
    replace H := Option.bind_eq_some_iff.mp H
    obtain ⟨t109, A140, H⟩ := H
    replace H : (if (t108 != t109) = true then (laws_FnOrder.j0 k l0 t108 true t102 t103 t104 t105) else (if t108 = true then ((impl_ShareLess.f t104 t105 t102 t103).bind fun t110 => (if t110 = true then (laws_FnOrder.j0 k l0 t108 true t102 t103 t104 t105) else ((impl_ShareLess.f t102 t103 t102 t103).bind fun t111 => (if t111 = true then (laws_FnOrder.j0 k l0 t108 true t102 t103 t104 t105) else ((impl_ShareOk.f t102 t103).bind fun t112 => ((spec_ShareOk.f t102 t103).bind fun t113 => (laws_FnOrder.j0 k l0 t108 (t112 != t113) t102 t103 t104 t105))))))) else ((impl_ShareLess.f t102 t103 t102 t103).bind fun t114 => (if t114 = true then (laws_FnOrder.j0 k l0 t108 true t102 t103 t104 t105) else ((impl_ShareOk.f t102 t103).bind fun t115 => ((spec_ShareOk.f t102 t103).bind fun t116 => (laws_FnOrder.j0 k l0 t108 (t115 != t116) t102 t103 t104 t105))))))) = some r := H
    have A14 := Aside0.mk A140
    clear A140
    by_cases c15 : (t108 != t109) = true
    · rw [if_pos c15] at H
      have c15b0 : (t108 != t109) = true := c15
      (try (have c15b1 : decide (t108 = t109) = false := by simpa using c15))
      (try (have c15b2 : (t108 == t109) = false := by simpa using c15))
      (try (have c15b3 : ¬ (t108 = t109) := by simpa using c15))
      clear c15
      (first | rw [c15b0] | (simp only [i64_w, i32_w]; rw [c15b0]) | skip)
      have H' := Aside0.mk H
      clear H
      try go_wp2
      have n0_ := aM (blk_drew BK106.out)
      have n1_ := aM (blk_drew BK107.out)
      have n2_ := aM (below_drew1 HB.out)
      clear BK106
      clear BK107
      clear HB
      have BK106 := n0_
      have BK107 := n1_
      have HB := n2_
      clear n0_ n1_ n2_
      refine start_ (n := 25) (S := fun w' => w'.cell? ⟨gb106, 0, none⟩ = some (.int .i64 t102) ∧ w'.cell? ⟨gb106, 1, none⟩ = some (.int .i64 t103) ∧ w'.cell? ⟨gb107, 0, none⟩ = some (.int .i64 t104) ∧ w'.cell? ⟨gb107, 1, none⟩ = some (.int .i64 t105)) (ds := []) #[nn,nn,nn,nn,nn,nn,nn,nn,nn,nn,nn,nn,nn,nn,nn,nn,nn,nn,nn,nn,nn,nn,nn,nn,nn] (by kernel_rfl) rfl rfl ⟨(blk_cell BK106.out 0).trans rfl, (blk_cell BK106.out 1).trans rfl, (blk_cell BK107.out 0).trans rfl, (blk_cell BK107.out 1).trans rfl⟩ (fun hHeld => ?_); refine with_tabW laws_FnOrder.tab5 laws_FnOrder.bits5 (fun HT_ HW_ => ?_)
      generalize w13.drew = w16 at BK106 BK107 HB hHeld ⊢
      refine pure_ (i := 0) (N := some 17) (v := ?_) (a' := ?_) #[yy,nn,nn,nn,nn,nn,nn,nn,nn,nn,nn,nn,nn,nn,nn,nn,nn,nn,nn,nn,nn,nn,nn,nn,nn] rfl rfl (any_of HT_.out (by kernel_rfl)) (fun _ _ _ h => h) (Or.inl ⟨by rfl, ?_⟩) ?_ ?_
      rotate_left
      · intro w'
        go_simp
        with_reducible rfl
      rotate_left
      · simp only [Act.put, List.setIfInBounds_toArray, List.set_cons_zero, List.set_cons_succ, i64_w, i32_w]
        rfl
      refine take_ (i := 1) (N := some 18) (v := ?_) (a' := ?_) #[yy,yy,nn,nn,nn,nn,nn,nn,nn,nn,nn,nn,nn,nn,nn,nn,nn,nn,nn,nn,nn,nn,nn,nn,nn] rfl rfl (take_ofW HT_.out HW_.out (by kernel_rfl)) (fun _ _ _ h => h) (Or.inl ⟨by rfl, ?_⟩) hHeld ?_ ?_
      rotate_left
      · rintro w' ⟨s0, s1, s2, s3⟩
        go_simp
        with_reducible rfl
      rotate_left
      · simp only [Act.put, List.setIfInBounds_toArray, List.set_cons_zero, List.set_cons_succ, i64_w, i32_w]
        rfl
      refine take_ (i := 2) (N := some 19) (v := ?_) (a' := ?_) #[yy,yy,yy,nn,nn,nn,nn,nn,nn,nn,nn,nn,nn,nn,nn,nn,nn,nn,nn,nn,nn,nn,nn,nn,nn] rfl rfl (take_ofW HT_.out HW_.out (by kernel_rfl)) (fun _ _ _ h => h) (Or.inl ⟨by rfl, ?_⟩) hHeld ?_ ?_
      rotate_left
      · rintro w' ⟨s0, s1, s2, s3⟩
        go_simp
        with_reducible rfl
      rotate_left
      · simp only [Act.put, List.setIfInBounds_toArray, List.set_cons_zero, List.set_cons_succ, i64_w, i32_w]
        rfl
      refine one_ (i := 3) (N := some 20) #[yy,yy,yy,yy,nn,nn,nn,nn,nn,nn,nn,nn,nn,nn,nn,nn,nn,nn,nn,nn,nn,nn,nn,nn,nn] rfl rfl (one_of HT_.out (by kernel_rfl)) (by decide) (fun K hK => ?_)
      refine goes_ Try.func47 (by kernel_rfl) rfl #[.agg #[.int .i64 t102, .int .i64 t103], .agg #[.int .i64 t104, .int .i64 t105]] (by rfl) rfl rfl (by (try simp only [List.map_toArray, List.map_cons, List.map_nil]); first | done | rfl | (simp only [List.length_drop, List.length_take]; rfl)) ?_
      with_reducible refine (spec_ShareLess.calls t102 t103 t104 t105 t109 _ A14.out).mono ?_
      rintro e w17 ⟨rfl, hb⟩
      refine ⟨_, rfl, ?_⟩
      have n0_ := aM (blk_below (g := gb106) (o := .cells #[.int .i64 t102, .int .i64 t103] 50 (0, 0)) (by (with_reducible repeat (first | apply bkD | apply bkd | apply bkA)); exact BK106.out) hb)
      have n1_ := aM (blk_below (g := gb107) (o := .cells #[.int .i64 t104, .int .i64 t105] 50 (0, 0)) (by (with_reducible repeat (first | apply bkD | apply bkd | apply bkA)); exact BK107.out) hb)
      have n2_ := aM (below_step (by repeat (first | (with_reducible first | exact HB.out | apply beA | apply beD | apply bed | refine beS ?_ GE106.out | refine beS ?_ GE107.out) | exact HB.out)) hb)
      clear BK106
      clear BK107
      clear HB
      have BK106 := n0_
      have BK107 := n1_
      have HB := n2_
      clear n0_ n1_ n2_
      (try clear hb)
      (try clear hb2)
      (try clear hk)
      (try clear hi)
      refine hK.out _ _ ⟨(blk_cell BK106.out 0).trans rfl, (blk_cell BK106.out 1).trans rfl, (blk_cell BK107.out 0).trans rfl, (blk_cell BK107.out 1).trans rfl⟩ (fun hHeld => ?_)
      clear hK K
      refine norm_ (a' := ?_) ?_ ?_
      rotate_left
      · show Act.put _ (some 20) _ = _
        simp only [Act.put, List.setIfInBounds_toArray, List.set_cons_zero, List.set_cons_succ, i64_w, i32_w]
        rfl
      refine pure_ (i := 4) (N := some 21) (v := ?_) (a' := ?_) #[yy,yy,yy,yy,yy,nn,nn,nn,nn,nn,nn,nn,nn,nn,nn,nn,nn,nn,nn,nn,nn,nn,nn,nn,nn] rfl rfl (any_of HT_.out (by kernel_rfl)) (fun _ _ _ h => h) (Or.inl ⟨by rfl, ?_⟩) ?_ ?_
      rotate_left
      · intro w'
        go_simp
        with_reducible rfl
      rotate_left
      · simp only [Act.put, List.setIfInBounds_toArray, List.set_cons_zero, List.set_cons_succ, i64_w, i32_w]
        rfl
      refine pure_ (i := 5) (N := some 22) (v := ?_) (a' := ?_) #[yy,yy,yy,yy,yy,yy,nn,nn,nn,nn,nn,nn,nn,nn,nn,nn,nn,nn,nn,nn,nn,nn,nn,nn,nn] rfl rfl (any_of HT_.out (by kernel_rfl)) (fun _ _ _ h => h) (Or.inl ⟨by rfl, ?_⟩) ?_ ?_
      rotate_left
      · intro w'
        go_simp
        with_reducible rfl
      rotate_left
      · simp only [Act.put, List.setIfInBounds_toArray, List.set_cons_zero, List.set_cons_succ, i64_w, i32_w]
        rfl
      refine pure_ (i := 6) (N := some 23) (v := undef) (a' := ?_) #[yy,yy,yy,yy,yy,yy,yy,nn,nn,nn,nn,nn,nn,nn,nn,nn,nn,nn,nn,nn,nn,nn,nn,nn,nn] rfl rfl (any_of HT_.out (by kernel_rfl)) (fun _ _ _ h => h) (Or.inr ⟨by rfl, rfl⟩) ?_ ?_
      rotate_left
      · simp only [Act.put, List.setIfInBounds_toArray, List.set_cons_zero, List.set_cons_succ, i64_w, i32_w]
        rfl
      refine pure_ (i := 7) (N := some 24) (v := undef) (a' := ?_) #[yy,yy,yy,yy,yy,yy,yy,yy,nn,nn,nn,nn,nn,nn,nn,nn,nn,nn,nn,nn,nn,nn,nn,nn,nn] rfl rfl (any_of HT_.out (by kernel_rfl)) (fun _ _ _ h => h) (Or.inr ⟨by rfl, rfl⟩) ?_ ?_
      rotate_left
      · simp only [Act.put, List.setIfInBounds_toArray, List.set_cons_zero, List.set_cons_succ, i64_w, i32_w]
        rfl
      refine pure_ (i := 8) (N := some 25) (v := undef) (a' := ?_) #[yy,yy,yy,yy,yy,yy,yy,yy,yy,nn,nn,nn,nn,nn,nn,nn,nn,nn,nn,nn,nn,nn,nn,nn,nn] rfl rfl (any_of HT_.out (by kernel_rfl)) (fun _ _ _ h => h) (Or.inr ⟨by rfl, rfl⟩) ?_ ?_
      rotate_left
      · simp only [Act.put, List.setIfInBounds_toArray, List.set_cons_zero, List.set_cons_succ, i64_w, i32_w]
        rfl
      refine pure_ (i := 9) (N := some 26) (v := undef) (a' := ?_) #[yy,yy,yy,yy,yy,yy,yy,yy,yy,yy,nn,nn,nn,nn,nn,nn,nn,nn,nn,nn,nn,nn,nn,nn,nn] rfl rfl (any_of HT_.out (by kernel_rfl)) (fun _ _ _ h => h) (Or.inr ⟨by rfl, rfl⟩) ?_ ?_
      rotate_left
      · simp only [Act.put, List.setIfInBounds_toArray, List.set_cons_zero, List.set_cons_succ, i64_w, i32_w]
        rfl
      refine pure_ (i := 10) (N := some 27) (v := undef) (a' := ?_) #[yy,yy,yy,yy,yy,yy,yy,yy,yy,yy,yy,nn,nn,nn,nn,nn,nn,nn,nn,nn,nn,nn,nn,nn,nn] rfl rfl (any_of HT_.out (by kernel_rfl)) (fun _ _ _ h => h) (Or.inr ⟨by rfl, rfl⟩) ?_ ?_
      rotate_left
      · simp only [Act.put, List.setIfInBounds_toArray, List.set_cons_zero, List.set_cons_succ, i64_w, i32_w]
        rfl
      refine pure_ (i := 11) (N := some 28) (v := undef) (a' := ?_) #[yy,yy,yy,yy,yy,yy,yy,yy,yy,yy,yy,yy,nn,nn,nn,nn,nn,nn,nn,nn,nn,nn,nn,nn,nn] rfl rfl (any_of HT_.out (by kernel_rfl)) (fun _ _ _ h => h) (Or.inr ⟨by rfl, rfl⟩) ?_ ?_
      rotate_left
      · simp only [Act.put, List.setIfInBounds_toArray, List.set_cons_zero, List.set_cons_succ, i64_w, i32_w]
        rfl
      refine pure_ (i := 12) (N := some 29) (v := ?_) (a' := ?_) #[yy,yy,yy,yy,yy,yy,yy,yy,yy,yy,yy,yy,yy,nn,nn,nn,nn,nn,nn,nn,nn,nn,nn,nn,nn] rfl rfl (any_of HT_.out (by kernel_rfl)) (fun _ _ _ h => h) (Or.inl ⟨by rfl, ?_⟩) ?_ ?_
      rotate_left
      · intro w'
        go_simp
        with_reducible rfl
      rotate_left
      · simp only [Act.put, List.setIfInBounds_toArray, List.set_cons_zero, List.set_cons_succ, i64_w, i32_w]
        rfl
      refine pure_ (i := 13) (N := some 30) (v := ?_) (a' := ?_) #[yy,yy,yy,yy,yy,yy,yy,yy,yy,yy,yy,yy,yy,yy,nn,nn,nn,nn,nn,nn,nn,nn,nn,nn,nn] rfl rfl (any_of HT_.out (by kernel_rfl)) (fun _ _ _ h => h) (Or.inl ⟨by rfl, ?_⟩) ?_ ?_
      rotate_left
      · intro w'
        go_simp
        with_reducible rfl
      rotate_left
      · simp only [Act.put, List.setIfInBounds_toArray, List.set_cons_zero, List.set_cons_succ, i64_w, i32_w]
        rfl
      refine pure_ (i := 14) (N := some 31) (v := undef) (a' := ?_) #[yy,yy,yy,yy,yy,yy,yy,yy,yy,yy,yy,yy,yy,yy,yy,nn,nn,nn,nn,nn,nn,nn,nn,nn,nn] rfl rfl (any_of HT_.out (by kernel_rfl)) (fun _ _ _ h => h) (Or.inr ⟨by rfl, rfl⟩) ?_ ?_
      rotate_left
      · simp only [Act.put, List.setIfInBounds_toArray, List.set_cons_zero, List.set_cons_succ, i64_w, i32_w]
        rfl
      refine pure_ (i := 15) (N := some 32) (v := undef) (a' := ?_) #[yy,yy,yy,yy,yy,yy,yy,yy,yy,yy,yy,yy,yy,yy,yy,yy,nn,nn,nn,nn,nn,nn,nn,nn,nn] rfl rfl (any_of HT_.out (by kernel_rfl)) (fun _ _ _ h => h) (Or.inr ⟨by rfl, rfl⟩) ?_ ?_
      rotate_left
      · simp only [Act.put, List.setIfInBounds_toArray, List.set_cons_zero, List.set_cons_succ, i64_w, i32_w]
        rfl
      refine pure_ (i := 16) (N := some 33) (v := undef) (a' := ?_) #[yy,yy,yy,yy,yy,yy,yy,yy,yy,yy,yy,yy,yy,yy,yy,yy,yy,nn,nn,nn,nn,nn,nn,nn,nn] rfl rfl (any_of HT_.out (by kernel_rfl)) (fun _ _ _ h => h) (Or.inr ⟨by rfl, rfl⟩) ?_ ?_
      rotate_left
      · simp only [Act.put, List.setIfInBounds_toArray, List.set_cons_zero, List.set_cons_succ, i64_w, i32_w]
        rfl
      refine pure_ (i := 17) (N := some 34) (v := ?_) (a' := ?_) #[yy,yy,yy,yy,yy,yy,yy,yy,yy,yy,yy,yy,yy,yy,yy,yy,yy,yy,nn,nn,nn,nn,nn,nn,nn] rfl rfl (any_of HT_.out (by kernel_rfl)) (fun _ _ _ h => h) (Or.inl ⟨by rfl, ?_⟩) ?_ ?_
      rotate_left
      · intro w'
        go_simp
        with_reducible rfl
      rotate_left
      · simp only [Act.put, List.setIfInBounds_toArray, List.set_cons_zero, List.set_cons_succ, i64_w, i32_w]
        rfl
      refine pure_ (i := 18) (N := some 35) (v := ?_) (a' := ?_) #[yy,yy,yy,yy,yy,yy,yy,yy,yy,yy,yy,yy,yy,yy,yy,yy,yy,yy,yy,nn,nn,nn,nn,nn,nn] rfl rfl (any_of HT_.out (by kernel_rfl)) (fun _ _ _ h => h) (Or.inl ⟨by rfl, ?_⟩) ?_ ?_
      rotate_left
      · intro w'
        go_simp
        with_reducible rfl
      rotate_left
      · simp only [Act.put, List.setIfInBounds_toArray, List.set_cons_zero, List.set_cons_succ, i64_w, i32_w]
        rfl
      refine pure_ (i := 19) (N := some 36) (v := undef) (a' := ?_) #[yy,yy,yy,yy,yy,yy,yy,yy,yy,yy,yy,yy,yy,yy,yy,yy,yy,yy,yy,yy,nn,nn,nn,nn,nn] rfl rfl (any_of HT_.out (by kernel_rfl)) (fun _ _ _ h => h) (Or.inr ⟨by rfl, rfl⟩) ?_ ?_
      rotate_left
      · simp only [Act.put, List.setIfInBounds_toArray, List.set_cons_zero, List.set_cons_succ, i64_w, i32_w]
        rfl
      refine pure_ (i := 20) (N := some 37) (v := undef) (a' := ?_) #[yy,yy,yy,yy,yy,yy,yy,yy,yy,yy,yy,yy,yy,yy,yy,yy,yy,yy,yy,yy,yy,nn,nn,nn,nn] rfl rfl (any_of HT_.out (by kernel_rfl)) (fun _ _ _ h => h) (Or.inr ⟨by rfl, rfl⟩) ?_ ?_
      rotate_left
      · simp only [Act.put, List.setIfInBounds_toArray, List.set_cons_zero, List.set_cons_succ, i64_w, i32_w]
        rfl
      refine pure_ (i := 21) (N := some 38) (v := undef) (a' := ?_) #[yy,yy,yy,yy,yy,yy,yy,yy,yy,yy,yy,yy,yy,yy,yy,yy,yy,yy,yy,yy,yy,yy,nn,nn,nn] rfl rfl (any_of HT_.out (by kernel_rfl)) (fun _ _ _ h => h) (Or.inr ⟨by rfl, rfl⟩) ?_ ?_
      rotate_left
      · simp only [Act.put, List.setIfInBounds_toArray, List.set_cons_zero, List.set_cons_succ, i64_w, i32_w]
        rfl
      refine pure_ (i := 22) (N := some 39) (v := undef) (a' := ?_) #[yy,yy,yy,yy,yy,yy,yy,yy,yy,yy,yy,yy,yy,yy,yy,yy,yy,yy,yy,yy,yy,yy,yy,nn,nn] rfl rfl (any_of HT_.out (by kernel_rfl)) (fun _ _ _ h => h) (Or.inr ⟨by rfl, rfl⟩) ?_ ?_
      rotate_left
      · simp only [Act.put, List.setIfInBounds_toArray, List.set_cons_zero, List.set_cons_succ, i64_w, i32_w]
        rfl
      refine pure_ (i := 23) (N := some 40) (v := undef) (a' := ?_) #[yy,yy,yy,yy,yy,yy,yy,yy,yy,yy,yy,yy,yy,yy,yy,yy,yy,yy,yy,yy,yy,yy,yy,yy,nn] rfl rfl (any_of HT_.out (by kernel_rfl)) (fun _ _ _ h => h) (Or.inr ⟨by rfl, rfl⟩) ?_ ?_
      rotate_left
      · simp only [Act.put, List.setIfInBounds_toArray, List.set_cons_zero, List.set_cons_succ, i64_w, i32_w]
        rfl
      refine pure_ (i := 24) (N := some 41) (v := ?_) (a' := ?_) #[yy,yy,yy,yy,yy,yy,yy,yy,yy,yy,yy,yy,yy,yy,yy,yy,yy,yy,yy,yy,yy,yy,yy,yy,yy] rfl rfl (any_of HT_.out (by kernel_rfl)) (fun _ _ _ h => h) (Or.inl ⟨by rfl, ?_⟩) ?_ ?_
      rotate_left
      · intro w'
        go_simp
        with_reducible rfl
      rotate_left
      · simp only [Act.put, List.setIfInBounds_toArray, List.set_cons_zero, List.set_cons_succ, i64_w, i32_w]
        rfl
      refine done_ (done_of HT_.out (by kernel_rfl)) ?_
      try go_wp2
      go_meet
      case rel => exact ⟨_, (true), (by first | rfl | (simp; done) | (simp [*]; done)), H', ⟨by first | omega | exact Nat.le_refl _⟩, ⟨by (with_reducible repeat (first | apply bkD | apply bkd | apply bkA)); exact BK106.out⟩, ⟨by (with_reducible repeat (first | apply bkD | apply bkd | apply bkA)); exact BK107.out⟩, ⟨by repeat (first | (with_reducible first | exact HB.out | apply beA | apply beD | apply bed | refine beS ?_ GE106.out | refine beS ?_ GE107.out) | exact HB.out)⟩⟩
    rw [if_neg c15] at H
    have c15b0 : (t108 != t109) = false := by simpa using c15
    (try (have c15b1 : decide (t108 = t109) = true := by simpa using c15))
    (try (have c15b2 : (t108 == t109) = true := by simpa using c15))
    clear c15
    (first | rw [c15b0] | (simp only [i64_w, i32_w]; rw [c15b0]) | skip)
    by_cases c18 : t108 = true
    · subst c18
      have H1 : ((impl_ShareLess.f t104 t105 t102 t103).bind fun t110 => (if t110 = true then (laws_FnOrder.j0 k l0 true true t102 t103 t104 t105) else ((impl_ShareLess.f t102 t103 t102 t103).bind fun t111 => (if t111 = true then (laws_FnOrder.j0 k l0 true true t102 t103 t104 t105) else ((impl_ShareOk.f t102 t103).bind fun t112 => ((spec_ShareOk.f t102 t103).bind fun t113 => (laws_FnOrder.j0 k l0 true (t112 != t113) t102 t103 t104 t105))))))) = some r := by rw [if_pos rfl] at H; exact H
      clear H
      have H := H1
      clear H1
      replace H := Option.bind_eq_some_iff.mp H
      obtain ⟨t110, A190, H⟩ := H
      replace H : (if t110 = true then (laws_FnOrder.j0 k l0 true true t102 t103 t104 t105) else ((impl_ShareLess.f t102 t103 t102 t103).bind fun t111 => (if t111 = true then (laws_FnOrder.j0 k l0 true true t102 t103 t104 t105) else ((impl_ShareOk.f t102 t103).bind fun t112 => ((spec_ShareOk.f t102 t103).bind fun t113 => (laws_FnOrder.j0 k l0 true (t112 != t113) t102 t103 t104 t105)))))) = some r := H
      have A19 := Aside0.mk A190
      clear A190
      by_cases c20 : t110 = true
      · subst c20
        have H1 : (laws_FnOrder.j0 k l0 true true t102 t103 t104 t105) = some r := by rw [if_pos rfl] at H; exact H
        clear H
        have H := H1
        clear H1
        have H' := Aside0.mk H
        clear H
        try go_wp2
        have n0_ := aM (blk_drew BK106.out)
        have n1_ := aM (blk_drew BK107.out)
        have n2_ := aM (below_drew1 HB.out)
        clear BK106
        clear BK107
        clear HB
        have BK106 := n0_
        have BK107 := n1_
        have HB := n2_
        clear n0_ n1_ n2_
        refine start_ (n := 25) (S := fun w' => w'.cell? ⟨gb106, 0, none⟩ = some (.int .i64 t102) ∧ w'.cell? ⟨gb106, 1, none⟩ = some (.int .i64 t103) ∧ w'.cell? ⟨gb107, 0, none⟩ = some (.int .i64 t104) ∧ w'.cell? ⟨gb107, 1, none⟩ = some (.int .i64 t105)) (ds := []) #[nn,nn,nn,nn,nn,nn,nn,nn,nn,nn,nn,nn,nn,nn,nn,nn,nn,nn,nn,nn,nn,nn,nn,nn,nn] (by kernel_rfl) rfl rfl ⟨(blk_cell BK106.out 0).trans rfl, (blk_cell BK106.out 1).trans rfl, (blk_cell BK107.out 0).trans rfl, (blk_cell BK107.out 1).trans rfl⟩ (fun hHeld => ?_); refine with_tabW laws_FnOrder.tab5 laws_FnOrder.bits5 (fun HT_ HW_ => ?_)
        generalize w13.drew = w21 at BK106 BK107 HB hHeld ⊢
        refine pure_ (i := 0) (N := some 17) (v := ?_) (a' := ?_) #[yy,nn,nn,nn,nn,nn,nn,nn,nn,nn,nn,nn,nn,nn,nn,nn,nn,nn,nn,nn,nn,nn,nn,nn,nn] rfl rfl (any_of HT_.out (by kernel_rfl)) (fun _ _ _ h => h) (Or.inl ⟨by rfl, ?_⟩) ?_ ?_
        rotate_left
        · intro w'
          go_simp
          with_reducible rfl
        rotate_left
        · simp only [Act.put, List.setIfInBounds_toArray, List.set_cons_zero, List.set_cons_succ, i64_w, i32_w]
          rfl
        refine take_ (i := 1) (N := some 18) (v := ?_) (a' := ?_) #[yy,yy,nn,nn,nn,nn,nn,nn,nn,nn,nn,nn,nn,nn,nn,nn,nn,nn,nn,nn,nn,nn,nn,nn,nn] rfl rfl (take_ofW HT_.out HW_.out (by kernel_rfl)) (fun _ _ _ h => h) (Or.inl ⟨by rfl, ?_⟩) hHeld ?_ ?_
        rotate_left
        · rintro w' ⟨s0, s1, s2, s3⟩
          go_simp
          with_reducible rfl
        rotate_left
        · simp only [Act.put, List.setIfInBounds_toArray, List.set_cons_zero, List.set_cons_succ, i64_w, i32_w]
          rfl
        refine take_ (i := 2) (N := some 19) (v := ?_) (a' := ?_) #[yy,yy,yy,nn,nn,nn,nn,nn,nn,nn,nn,nn,nn,nn,nn,nn,nn,nn,nn,nn,nn,nn,nn,nn,nn] rfl rfl (take_ofW HT_.out HW_.out (by kernel_rfl)) (fun _ _ _ h => h) (Or.inl ⟨by rfl, ?_⟩) hHeld ?_ ?_
        rotate_left
        · rintro w' ⟨s0, s1, s2, s3⟩
          go_simp
          with_reducible rfl
        rotate_left
        · simp only [Act.put, List.setIfInBounds_toArray, List.set_cons_zero, List.set_cons_succ, i64_w, i32_w]
          rfl
        refine one_ (i := 3) (N := some 20) #[yy,yy,yy,yy,nn,nn,nn,nn,nn,nn,nn,nn,nn,nn,nn,nn,nn,nn,nn,nn,nn,nn,nn,nn,nn] rfl rfl (one_of HT_.out (by kernel_rfl)) (by decide) (fun K hK => ?_)
        refine goes_ Try.func47 (by kernel_rfl) rfl #[.agg #[.int .i64 t102, .int .i64 t103], .agg #[.int .i64 t104, .int .i64 t105]] (by rfl) rfl rfl (by (try simp only [List.map_toArray, List.map_cons, List.map_nil]); first | done | rfl | (simp only [List.length_drop, List.length_take]; rfl)) ?_
        with_reducible refine (spec_ShareLess.calls t102 t103 t104 t105 t109 _ A14.out).mono ?_
        rintro e w22 ⟨rfl, hb⟩
        refine ⟨_, rfl, ?_⟩
        have n0_ := aM (blk_below (g := gb106) (o := .cells #[.int .i64 t102, .int .i64 t103] 50 (0, 0)) (by (with_reducible repeat (first | apply bkD | apply bkd | apply bkA)); exact BK106.out) hb)
        have n1_ := aM (blk_below (g := gb107) (o := .cells #[.int .i64 t104, .int .i64 t105] 50 (0, 0)) (by (with_reducible repeat (first | apply bkD | apply bkd | apply bkA)); exact BK107.out) hb)
        have n2_ := aM (below_step (by repeat (first | (with_reducible first | exact HB.out | apply beA | apply beD | apply bed | refine beS ?_ GE106.out | refine beS ?_ GE107.out) | exact HB.out)) hb)
        clear BK106
        clear BK107
        clear HB
        have BK106 := n0_
        have BK107 := n1_
        have HB := n2_
        clear n0_ n1_ n2_
        (try clear hb)
        (try clear hb2)
        (try clear hk)
        (try clear hi)
        refine hK.out _ _ ⟨(blk_cell BK106.out 0).trans rfl, (blk_cell BK106.out 1).trans rfl, (blk_cell BK107.out 0).trans rfl, (blk_cell BK107.out 1).trans rfl⟩ (fun hHeld => ?_)
        clear hK K
        refine norm_ (a' := ?_) ?_ ?_
        rotate_left
        · show Act.put _ (some 20) _ = _
          simp only [Act.put, List.setIfInBounds_toArray, List.set_cons_zero, List.set_cons_succ, i64_w, i32_w]
          rfl
        refine pure_ (i := 4) (N := some 21) (v := ?_) (a' := ?_) #[yy,yy,yy,yy,yy,nn,nn,nn,nn,nn,nn,nn,nn,nn,nn,nn,nn,nn,nn,nn,nn,nn,nn,nn,nn] rfl rfl (any_of HT_.out (by kernel_rfl)) (fun _ _ _ h => h) (Or.inl ⟨by rfl, ?_⟩) ?_ ?_
        rotate_left
        · intro w'
          go_simp
          with_reducible rfl
        rotate_left
        · simp only [Act.put, List.setIfInBounds_toArray, List.set_cons_zero, List.set_cons_succ, i64_w, i32_w]
          rfl
        refine pure_ (i := 5) (N := some 22) (v := ?_) (a' := ?_) #[yy,yy,yy,yy,yy,yy,nn,nn,nn,nn,nn,nn,nn,nn,nn,nn,nn,nn,nn,nn,nn,nn,nn,nn,nn] rfl rfl (any_of HT_.out (by kernel_rfl)) (fun _ _ _ h => h) (Or.inl ⟨by rfl, ?_⟩) ?_ ?_
        rotate_left
        · intro w'
          go_simp
          with_reducible rfl
        rotate_left
        · simp only [Act.put, List.setIfInBounds_toArray, List.set_cons_zero, List.set_cons_succ, i64_w, i32_w]
          rfl
        refine pure_ (i := 6) (N := some 23) (v := ?_) (a' := ?_) #[yy,yy,yy,yy,yy,yy,yy,nn,nn,nn,nn,nn,nn,nn,nn,nn,nn,nn,nn,nn,nn,nn,nn,nn,nn] rfl rfl (any_of HT_.out (by kernel_rfl)) (fun _ _ _ h => h) (Or.inl ⟨by rfl, ?_⟩) ?_ ?_
        rotate_left
        · intro w'
          go_simp
          with_reducible rfl
        rotate_left
        · simp only [Act.put, List.setIfInBounds_toArray, List.set_cons_zero, List.set_cons_succ, i64_w, i32_w]
          rfl
        refine pure_ (i := 7) (N := some 24) (v := ?_) (a' := ?_) #[yy,yy,yy,yy,yy,yy,yy,yy,nn,nn,nn,nn,nn,nn,nn,nn,nn,nn,nn,nn,nn,nn,nn,nn,nn] rfl rfl (any_of HT_.out (by kernel_rfl)) (fun _ _ _ h => h) (Or.inl ⟨by rfl, ?_⟩) ?_ ?_
        rotate_left
        · intro w'
          go_simp
          with_reducible rfl
        rotate_left
        · simp only [Act.put, List.setIfInBounds_toArray, List.set_cons_zero, List.set_cons_succ, i64_w, i32_w]
          rfl
        refine take_ (i := 8) (N := some 25) (v := ?_) (a' := ?_) #[yy,yy,yy,yy,yy,yy,yy,yy,yy,nn,nn,nn,nn,nn,nn,nn,nn,nn,nn,nn,nn,nn,nn,nn,nn] rfl rfl (take_ofW HT_.out HW_.out (by kernel_rfl)) (fun _ _ _ h => h) (Or.inl ⟨by rfl, ?_⟩) hHeld ?_ ?_
        rotate_left
        · rintro w' ⟨s0, s1, s2, s3⟩
          go_simp
          with_reducible rfl
        rotate_left
        · simp only [Act.put, List.setIfInBounds_toArray, List.set_cons_zero, List.set_cons_succ, i64_w, i32_w]
          rfl
        refine take_ (i := 9) (N := some 26) (v := ?_) (a' := ?_) #[yy,yy,yy,yy,yy,yy,yy,yy,yy,yy,nn,nn,nn,nn,nn,nn,nn,nn,nn,nn,nn,nn,nn,nn,nn] rfl rfl (take_ofW HT_.out HW_.out (by kernel_rfl)) (fun _ _ _ h => h) (Or.inl ⟨by rfl, ?_⟩) hHeld ?_ ?_
        rotate_left
        · rintro w' ⟨s0, s1, s2, s3⟩
          go_simp
          with_reducible rfl
        rotate_left
        · simp only [Act.put, List.setIfInBounds_toArray, List.set_cons_zero, List.set_cons_succ, i64_w, i32_w]
          rfl
        refine one_ (i := 10) (N := some 27) #[yy,yy,yy,yy,yy,yy,yy,yy,yy,yy,yy,nn,nn,nn,nn,nn,nn,nn,nn,nn,nn,nn,nn,nn,nn] rfl rfl (one_of HT_.out (by kernel_rfl)) (by decide) (fun K hK => ?_)
        refine goes_ Try.func46 (by kernel_rfl) rfl #[.agg #[.int .i64 t104, .int .i64 t105], .agg #[.int .i64 t102, .int .i64 t103]] (by rfl) rfl rfl (by (try simp only [List.map_toArray, List.map_cons, List.map_nil]); first | done | rfl | (simp only [List.length_drop, List.length_take]; rfl)) ?_
        with_reducible refine (impl_ShareLess.calls t104 t105 t102 t103 true _ A19.out).mono ?_
        rintro e w23 ⟨rfl, hb⟩
        refine ⟨_, rfl, ?_⟩
        have n0_ := aM (blk_below (g := gb106) (o := .cells #[.int .i64 t102, .int .i64 t103] 50 (0, 0)) (by (with_reducible repeat (first | apply bkD | apply bkd | apply bkA)); exact BK106.out) hb)
        have n1_ := aM (blk_below (g := gb107) (o := .cells #[.int .i64 t104, .int .i64 t105] 50 (0, 0)) (by (with_reducible repeat (first | apply bkD | apply bkd | apply bkA)); exact BK107.out) hb)
        have n2_ := aM (below_step (by repeat (first | (with_reducible first | exact HB.out | apply beA | apply beD | apply bed | refine beS ?_ GE106.out | refine beS ?_ GE107.out) | exact HB.out)) hb)
        clear BK106
        clear BK107
        clear HB
        have BK106 := n0_
        have BK107 := n1_
        have HB := n2_
        clear n0_ n1_ n2_
        (try clear hb)
        (try clear hb2)
        (try clear hk)
        (try clear hi)
        refine hK.out _ _ ⟨(blk_cell BK106.out 0).trans rfl, (blk_cell BK106.out 1).trans rfl, (blk_cell BK107.out 0).trans rfl, (blk_cell BK107.out 1).trans rfl⟩ (fun hHeld => ?_)
        clear hK K
        refine norm_ (a' := ?_) ?_ ?_
        rotate_left
        · show Act.put _ (some 27) _ = _
          simp only [Act.put, List.setIfInBounds_toArray, List.set_cons_zero, List.set_cons_succ, i64_w, i32_w]
          rfl
        refine pure_ (i := 11) (N := some 28) (v := ?_) (a' := ?_) #[yy,yy,yy,yy,yy,yy,yy,yy,yy,yy,yy,yy,nn,nn,nn,nn,nn,nn,nn,nn,nn,nn,nn,nn,nn] rfl rfl (any_of HT_.out (by kernel_rfl)) (fun _ _ _ h => h) (Or.inl ⟨by rfl, ?_⟩) ?_ ?_
        rotate_left
        · intro w'
          go_simp
          with_reducible rfl
        rotate_left
        · simp only [Act.put, List.setIfInBounds_toArray, List.set_cons_zero, List.set_cons_succ, i64_w, i32_w]
          rfl
        refine pure_ (i := 12) (N := some 29) (v := ?_) (a' := ?_) #[yy,yy,yy,yy,yy,yy,yy,yy,yy,yy,yy,yy,yy,nn,nn,nn,nn,nn,nn,nn,nn,nn,nn,nn,nn] rfl rfl (any_of HT_.out (by kernel_rfl)) (fun _ _ _ h => h) (Or.inl ⟨by rfl, ?_⟩) ?_ ?_
        rotate_left
        · intro w'
          go_simp
          with_reducible rfl
        rotate_left
        · simp only [Act.put, List.setIfInBounds_toArray, List.set_cons_zero, List.set_cons_succ, i64_w, i32_w]
          rfl
        refine pure_ (i := 13) (N := some 30) (v := ?_) (a' := ?_) #[yy,yy,yy,yy,yy,yy,yy,yy,yy,yy,yy,yy,yy,yy,nn,nn,nn,nn,nn,nn,nn,nn,nn,nn,nn] rfl rfl (any_of HT_.out (by kernel_rfl)) (fun _ _ _ h => h) (Or.inl ⟨by rfl, ?_⟩) ?_ ?_
        rotate_left
        · intro w'
          go_simp
          with_reducible rfl
        rotate_left
        · simp only [Act.put, List.setIfInBounds_toArray, List.set_cons_zero, List.set_cons_succ, i64_w, i32_w]
          rfl
        refine pure_ (i := 14) (N := some 31) (v := undef) (a' := ?_) #[yy,yy,yy,yy,yy,yy,yy,yy,yy,yy,yy,yy,yy,yy,yy,nn,nn,nn,nn,nn,nn,nn,nn,nn,nn] rfl rfl (any_of HT_.out (by kernel_rfl)) (fun _ _ _ h => h) (Or.inr ⟨by rfl, rfl⟩) ?_ ?_
        rotate_left
        · simp only [Act.put, List.setIfInBounds_toArray, List.set_cons_zero, List.set_cons_succ, i64_w, i32_w]
          rfl
        refine pure_ (i := 15) (N := some 32) (v := undef) (a' := ?_) #[yy,yy,yy,yy,yy,yy,yy,yy,yy,yy,yy,yy,yy,yy,yy,yy,nn,nn,nn,nn,nn,nn,nn,nn,nn] rfl rfl (any_of HT_.out (by kernel_rfl)) (fun _ _ _ h => h) (Or.inr ⟨by rfl, rfl⟩) ?_ ?_
        rotate_left
        · simp only [Act.put, List.setIfInBounds_toArray, List.set_cons_zero, List.set_cons_succ, i64_w, i32_w]
          rfl
        refine pure_ (i := 16) (N := some 33) (v := undef) (a' := ?_) #[yy,yy,yy,yy,yy,yy,yy,yy,yy,yy,yy,yy,yy,yy,yy,yy,yy,nn,nn,nn,nn,nn,nn,nn,nn] rfl rfl (any_of HT_.out (by kernel_rfl)) (fun _ _ _ h => h) (Or.inr ⟨by rfl, rfl⟩) ?_ ?_
        rotate_left
        · simp only [Act.put, List.setIfInBounds_toArray, List.set_cons_zero, List.set_cons_succ, i64_w, i32_w]
          rfl
        refine pure_ (i := 17) (N := some 34) (v := ?_) (a' := ?_) #[yy,yy,yy,yy,yy,yy,yy,yy,yy,yy,yy,yy,yy,yy,yy,yy,yy,yy,nn,nn,nn,nn,nn,nn,nn] rfl rfl (any_of HT_.out (by kernel_rfl)) (fun _ _ _ h => h) (Or.inl ⟨by rfl, ?_⟩) ?_ ?_
        rotate_left
        · intro w'
          go_simp
          with_reducible rfl
        rotate_left
        · simp only [Act.put, List.setIfInBounds_toArray, List.set_cons_zero, List.set_cons_succ, i64_w, i32_w]
          rfl
        refine pure_ (i := 18) (N := some 35) (v := ?_) (a' := ?_) #[yy,yy,yy,yy,yy,yy,yy,yy,yy,yy,yy,yy,yy,yy,yy,yy,yy,yy,yy,nn,nn,nn,nn,nn,nn] rfl rfl (any_of HT_.out (by kernel_rfl)) (fun _ _ _ h => h) (Or.inl ⟨by rfl, ?_⟩) ?_ ?_
        rotate_left
        · intro w'
          go_simp
          with_reducible rfl
        rotate_left
        · simp only [Act.put, List.setIfInBounds_toArray, List.set_cons_zero, List.set_cons_succ, i64_w, i32_w]
          rfl
        refine pure_ (i := 19) (N := some 36) (v := undef) (a' := ?_) #[yy,yy,yy,yy,yy,yy,yy,yy,yy,yy,yy,yy,yy,yy,yy,yy,yy,yy,yy,yy,nn,nn,nn,nn,nn] rfl rfl (any_of HT_.out (by kernel_rfl)) (fun _ _ _ h => h) (Or.inr ⟨by rfl, rfl⟩) ?_ ?_
        rotate_left
        · simp only [Act.put, List.setIfInBounds_toArray, List.set_cons_zero, List.set_cons_succ, i64_w, i32_w]
          rfl
        refine pure_ (i := 20) (N := some 37) (v := undef) (a' := ?_) #[yy,yy,yy,yy,yy,yy,yy,yy,yy,yy,yy,yy,yy,yy,yy,yy,yy,yy,yy,yy,yy,nn,nn,nn,nn] rfl rfl (any_of HT_.out (by kernel_rfl)) (fun _ _ _ h => h) (Or.inr ⟨by rfl, rfl⟩) ?_ ?_
        rotate_left
        · simp only [Act.put, List.setIfInBounds_toArray, List.set_cons_zero, List.set_cons_succ, i64_w, i32_w]
          rfl
        refine pure_ (i := 21) (N := some 38) (v := undef) (a' := ?_) #[yy,yy,yy,yy,yy,yy,yy,yy,yy,yy,yy,yy,yy,yy,yy,yy,yy,yy,yy,yy,yy,yy,nn,nn,nn] rfl rfl (any_of HT_.out (by kernel_rfl)) (fun _ _ _ h => h) (Or.inr ⟨by rfl, rfl⟩) ?_ ?_
        rotate_left
        · simp only [Act.put, List.setIfInBounds_toArray, List.set_cons_zero, List.set_cons_succ, i64_w, i32_w]
          rfl
        refine pure_ (i := 22) (N := some 39) (v := undef) (a' := ?_) #[yy,yy,yy,yy,yy,yy,yy,yy,yy,yy,yy,yy,yy,yy,yy,yy,yy,yy,yy,yy,yy,yy,yy,nn,nn] rfl rfl (any_of HT_.out (by kernel_rfl)) (fun _ _ _ h => h) (Or.inr ⟨by rfl, rfl⟩) ?_ ?_
        rotate_left
        · simp only [Act.put, List.setIfInBounds_toArray, List.set_cons_zero, List.set_cons_succ, i64_w, i32_w]
          rfl
        refine pure_ (i := 23) (N := some 40) (v := undef) (a' := ?_) #[yy,yy,yy,yy,yy,yy,yy,yy,yy,yy,yy,yy,yy,yy,yy,yy,yy,yy,yy,yy,yy,yy,yy,yy,nn] rfl rfl (any_of HT_.out (by kernel_rfl)) (fun _ _ _ h => h) (Or.inr ⟨by rfl, rfl⟩) ?_ ?_
        rotate_left
        · simp only [Act.put, List.setIfInBounds_toArray, List.set_cons_zero, List.set_cons_succ, i64_w, i32_w]
          rfl
        refine pure_ (i := 24) (N := some 41) (v := ?_) (a' := ?_) #[yy,yy,yy,yy,yy,yy,yy,yy,yy,yy,yy,yy,yy,yy,yy,yy,yy,yy,yy,yy,yy,yy,yy,yy,yy] rfl rfl (any_of HT_.out (by kernel_rfl)) (fun _ _ _ h => h) (Or.inl ⟨by rfl, ?_⟩) ?_ ?_
        rotate_left
        · intro w'
          go_simp
          with_reducible rfl
        rotate_left
        · simp only [Act.put, List.setIfInBounds_toArray, List.set_cons_zero, List.set_cons_succ, i64_w, i32_w]
          rfl
        refine done_ (done_of HT_.out (by kernel_rfl)) ?_
        try go_wp2
        go_meet
        case rel => exact ⟨_, (true), (by first | rfl | (simp; done) | (simp [*]; done)), H', ⟨by first | omega | exact Nat.le_refl _⟩, ⟨by (with_reducible repeat (first | apply bkD | apply bkd | apply bkA)); exact BK106.out⟩, ⟨by (with_reducible repeat (first | apply bkD | apply bkd | apply bkA)); exact BK107.out⟩, ⟨by repeat (first | (with_reducible first | exact HB.out | apply beA | apply beD | apply bed | refine beS ?_ GE106.out | refine beS ?_ GE107.out) | exact HB.out)⟩⟩
      replace c20 := Bool.eq_false_iff.mpr c20
      subst c20
      have H1 : ((impl_ShareLess.f t102 t103 t102 t103).bind fun t111 => (if t111 = true then (laws_FnOrder.j0 k l0 true true t102 t103 t104 t105) else ((impl_ShareOk.f t102 t103).bind fun t112 => ((spec_ShareOk.f t102 t103).bind fun t113 => (laws_FnOrder.j0 k l0 true (t112 != t113) t102 t103 t104 t105))))) = some r := by rw [if_neg (show ¬ (false = true) by decide)] at H; exact H
      clear H
      have H := H1
      clear H1
      replace H := Option.bind_eq_some_iff.mp H
      obtain ⟨t111, A240, H⟩ := H
      replace H : (if t111 = true then (laws_FnOrder.j0 k l0 true true t102 t103 t104 t105) else ((impl_ShareOk.f t102 t103).bind fun t112 => ((spec_ShareOk.f t102 t103).bind fun t113 => (laws_FnOrder.j0 k l0 true (t112 != t113) t102 t103 t104 t105)))) = some r := H
      have A24 := Aside0.mk A240
      clear A240
      by_cases c25 : t111 = true
      · subst c25
        have H1 : (laws_FnOrder.j0 k l0 true true t102 t103 t104 t105) = some r := by rw [if_pos rfl] at H; exact H
        clear H
        have H := H1
        clear H1
        have H' := Aside0.mk H
        clear H
        try go_wp2
        have n0_ := aM (blk_drew BK106.out)
        have n1_ := aM (blk_drew BK107.out)
        have n2_ := aM (below_drew1 HB.out)
        clear BK106
        clear BK107
        clear HB
        have BK106 := n0_
        have BK107 := n1_
        have HB := n2_
        clear n0_ n1_ n2_
        refine start_ (n := 25) (S := fun w' => w'.cell? ⟨gb106, 0, none⟩ = some (.int .i64 t102) ∧ w'.cell? ⟨gb106, 1, none⟩ = some (.int .i64 t103) ∧ w'.cell? ⟨gb107, 0, none⟩ = some (.int .i64 t104) ∧ w'.cell? ⟨gb107, 1, none⟩ = some (.int .i64 t105)) (ds := []) #[nn,nn,nn,nn,nn,nn,nn,nn,nn,nn,nn,nn,nn,nn,nn,nn,nn,nn,nn,nn,nn,nn,nn,nn,nn] (by kernel_rfl) rfl rfl ⟨(blk_cell BK106.out 0).trans rfl, (blk_cell BK106.out 1).trans rfl, (blk_cell BK107.out 0).trans rfl, (blk_cell BK107.out 1).trans rfl⟩ (fun hHeld => ?_); refine with_tabW laws_FnOrder.tab5 laws_FnOrder.bits5 (fun HT_ HW_ => ?_)
        generalize w13.drew = w26 at BK106 BK107 HB hHeld ⊢
        refine pure_ (i := 0) (N := some 17) (v := ?_) (a' := ?_) #[yy,nn,nn,nn,nn,nn,nn,nn,nn,nn,nn,nn,nn,nn,nn,nn,nn,nn,nn,nn,nn,nn,nn,nn,nn] rfl rfl (any_of HT_.out (by kernel_rfl)) (fun _ _ _ h => h) (Or.inl ⟨by rfl, ?_⟩) ?_ ?_
        rotate_left
        · intro w'
          go_simp
          with_reducible rfl
        rotate_left
        · simp only [Act.put, List.setIfInBounds_toArray, List.set_cons_zero, List.set_cons_succ, i64_w, i32_w]
          rfl
        refine take_ (i := 1) (N := some 18) (v := ?_) (a' := ?_) #[yy,yy,nn,nn,nn,nn,nn,nn,nn,nn,nn,nn,nn,nn,nn,nn,nn,nn,nn,nn,nn,nn,nn,nn,nn] rfl rfl (take_ofW HT_.out HW_.out (by kernel_rfl)) (fun _ _ _ h => h) (Or.inl ⟨by rfl, ?_⟩) hHeld ?_ ?_
        rotate_left
        · rintro w' ⟨s0, s1, s2, s3⟩
          go_simp
          with_reducible rfl
        rotate_left
        · simp only [Act.put, List.setIfInBounds_toArray, List.set_cons_zero, List.set_cons_succ, i64_w, i32_w]
          rfl
        refine take_ (i := 2) (N := some 19) (v := ?_) (a' := ?_) #[yy,yy,yy,nn,nn,nn,nn,nn,nn,nn,nn,nn,nn,nn,nn,nn,nn,nn,nn,nn,nn,nn,nn,nn,nn] rfl rfl (take_ofW HT_.out HW_.out (by kernel_rfl)) (fun _ _ _ h => h) (Or.inl ⟨by rfl, ?_⟩) hHeld ?_ ?_
        rotate_left
        · rintro w' ⟨s0, s1, s2, s3⟩
          go_simp
          with_reducible rfl
        rotate_left
        · simp only [Act.put, List.setIfInBounds_toArray, List.set_cons_zero, List.set_cons_succ, i64_w, i32_w]
          rfl
        refine one_ (i := 3) (N := some 20) #[yy,yy,yy,yy,nn,nn,nn,nn,nn,nn,nn,nn,nn,nn,nn,nn,nn,nn,nn,nn,nn,nn,nn,nn,nn] rfl rfl (one_of HT_.out (by kernel_rfl)) (by decide) (fun K hK => ?_)
        refine goes_ Try.func47 (by kernel_rfl) rfl #[.agg #[.int .i64 t102, .int .i64 t103], .agg #[.int .i64 t104, .int .i64 t105]] (by rfl) rfl rfl (by (try simp only [List.map_toArray, List.map_cons, List.map_nil]); first | done | rfl | (simp only [List.length_drop, List.length_take]; rfl)) ?_
        with_reducible refine (spec_ShareLess.calls t102 t103 t104 t105 t109 _ A14.out).mono ?_
        rintro e w27 ⟨rfl, hb⟩
        refine ⟨_, rfl, ?_⟩
        have n0_ := aM (blk_below (g := gb106) (o := .cells #[.int .i64 t102, .int .i64 t103] 50 (0, 0)) (by (with_reducible repeat (first | apply bkD | apply bkd | apply bkA)); exact BK106.out) hb)
        have n1_ := aM (blk_below (g := gb107) (o := .cells #[.int .i64 t104, .int .i64 t105] 50 (0, 0)) (by (with_reducible repeat (first | apply bkD | apply bkd | apply bkA)); exact BK107.out) hb)
        have n2_ := aM (below_step (by repeat (first | (with_reducible first | exact HB.out | apply beA | apply beD | apply bed | refine beS ?_ GE106.out | refine beS ?_ GE107.out) | exact HB.out)) hb)
        clear BK106
        clear BK107
        clear HB
        have BK106 := n0_
        have BK107 := n1_
        have HB := n2_
        clear n0_ n1_ n2_
        (try clear hb)
        (try clear hb2)
        (try clear hk)
        (try clear hi)
        refine hK.out _ _ ⟨(blk_cell BK106.out 0).trans rfl, (blk_cell BK106.out 1).trans rfl, (blk_cell BK107.out 0).trans rfl, (blk_cell BK107.out 1).trans rfl⟩ (fun hHeld => ?_)
        clear hK K
        refine norm_ (a' := ?_) ?_ ?_
        rotate_left
        · show Act.put _ (some 20) _ = _
          simp only [Act.put, List.setIfInBounds_toArray, List.set_cons_zero, List.set_cons_succ, i64_w, i32_w]
          rfl
        refine pure_ (i := 4) (N := some 21) (v := ?_) (a' := ?_) #[yy,yy,yy,yy,yy,nn,nn,nn,nn,nn,nn,nn,nn,nn,nn,nn,nn,nn,nn,nn,nn,nn,nn,nn,nn] rfl rfl (any_of HT_.out (by kernel_rfl)) (fun _ _ _ h => h) (Or.inl ⟨by rfl, ?_⟩) ?_ ?_
        rotate_left
        · intro w'
          go_simp
          with_reducible rfl
        rotate_left
        · simp only [Act.put, List.setIfInBounds_toArray, List.set_cons_zero, List.set_cons_succ, i64_w, i32_w]
          rfl
        refine pure_ (i := 5) (N := some 22) (v := ?_) (a' := ?_) #[yy,yy,yy,yy,yy,yy,nn,nn,nn,nn,nn,nn,nn,nn,nn,nn,nn,nn,nn,nn,nn,nn,nn,nn,nn] rfl rfl (any_of HT_.out (by kernel_rfl)) (fun _ _ _ h => h) (Or.inl ⟨by rfl, ?_⟩) ?_ ?_
        rotate_left
        · intro w'
          go_simp
          with_reducible rfl
        rotate_left
        · simp only [Act.put, List.setIfInBounds_toArray, List.set_cons_zero, List.set_cons_succ, i64_w, i32_w]
          rfl
        refine pure_ (i := 6) (N := some 23) (v := ?_) (a' := ?_) #[yy,yy,yy,yy,yy,yy,yy,nn,nn,nn,nn,nn,nn,nn,nn,nn,nn,nn,nn,nn,nn,nn,nn,nn,nn] rfl rfl (any_of HT_.out (by kernel_rfl)) (fun _ _ _ h => h) (Or.inl ⟨by rfl, ?_⟩) ?_ ?_
        rotate_left
        · intro w'
          go_simp
          with_reducible rfl
        rotate_left
        · simp only [Act.put, List.setIfInBounds_toArray, List.set_cons_zero, List.set_cons_succ, i64_w, i32_w]
          rfl
        refine pure_ (i := 7) (N := some 24) (v := ?_) (a' := ?_) #[yy,yy,yy,yy,yy,yy,yy,yy,nn,nn,nn,nn,nn,nn,nn,nn,nn,nn,nn,nn,nn,nn,nn,nn,nn] rfl rfl (any_of HT_.out (by kernel_rfl)) (fun _ _ _ h => h) (Or.inl ⟨by rfl, ?_⟩) ?_ ?_
        rotate_left
        · intro w'
          go_simp
          with_reducible rfl
        rotate_left
        · simp only [Act.put, List.setIfInBounds_toArray, List.set_cons_zero, List.set_cons_succ, i64_w, i32_w]
          rfl
        refine take_ (i := 8) (N := some 25) (v := ?_) (a' := ?_) #[yy,yy,yy,yy,yy,yy,yy,yy,yy,nn,nn,nn,nn,nn,nn,nn,nn,nn,nn,nn,nn,nn,nn,nn,nn] rfl rfl (take_ofW HT_.out HW_.out (by kernel_rfl)) (fun _ _ _ h => h) (Or.inl ⟨by rfl, ?_⟩) hHeld ?_ ?_
        rotate_left
        · rintro w' ⟨s0, s1, s2, s3⟩
          go_simp
          with_reducible rfl
        rotate_left
        · simp only [Act.put, List.setIfInBounds_toArray, List.set_cons_zero, List.set_cons_succ, i64_w, i32_w]
          rfl
        refine take_ (i := 9) (N := some 26) (v := ?_) (a' := ?_) #[yy,yy,yy,yy,yy,yy,yy,yy,yy,yy,nn,nn,nn,nn,nn,nn,nn,nn,nn,nn,nn,nn,nn,nn,nn] rfl rfl (take_ofW HT_.out HW_.out (by kernel_rfl)) (fun _ _ _ h => h) (Or.inl ⟨by rfl, ?_⟩) hHeld ?_ ?_
        rotate_left
        · rintro w' ⟨s0, s1, s2, s3⟩
          go_simp
          with_reducible rfl
        rotate_left
        · simp only [Act.put, List.setIfInBounds_toArray, List.set_cons_zero, List.set_cons_succ, i64_w, i32_w]
          rfl
        refine one_ (i := 10) (N := some 27) #[yy,yy,yy,yy,yy,yy,yy,yy,yy,yy,yy,nn,nn,nn,nn,nn,nn,nn,nn,nn,nn,nn,nn,nn,nn] rfl rfl (one_of HT_.out (by kernel_rfl)) (by decide) (fun K hK => ?_)
        refine goes_ Try.func46 (by kernel_rfl) rfl #[.agg #[.int .i64 t104, .int .i64 t105], .agg #[.int .i64 t102, .int .i64 t103]] (by rfl) rfl rfl (by (try simp only [List.map_toArray, List.map_cons, List.map_nil]); first | done | rfl | (simp only [List.length_drop, List.length_take]; rfl)) ?_
        with_reducible refine (impl_ShareLess.calls t104 t105 t102 t103 false _ A19.out).mono ?_
        rintro e w28 ⟨rfl, hb⟩
        refine ⟨_, rfl, ?_⟩
        have n0_ := aM (blk_below (g := gb106) (o := .cells #[.int .i64 t102, .int .i64 t103] 50 (0, 0)) (by (with_reducible repeat (first | apply bkD | apply bkd | apply bkA)); exact BK106.out) hb)
        have n1_ := aM (blk_below (g := gb107) (o := .cells #[.int .i64 t104, .int .i64 t105] 50 (0, 0)) (by (with_reducible repeat (first | apply bkD | apply bkd | apply bkA)); exact BK107.out) hb)
        have n2_ := aM (below_step (by repeat (first | (with_reducible first | exact HB.out | apply beA | apply beD | apply bed | refine beS ?_ GE106.out | refine beS ?_ GE107.out) | exact HB.out)) hb)
        clear BK106
        clear BK107
        clear HB
        have BK106 := n0_
        have BK107 := n1_
        have HB := n2_
        clear n0_ n1_ n2_
        (try clear hb)
        (try clear hb2)
        (try clear hk)
        (try clear hi)
        refine hK.out _ _ ⟨(blk_cell BK106.out 0).trans rfl, (blk_cell BK106.out 1).trans rfl, (blk_cell BK107.out 0).trans rfl, (blk_cell BK107.out 1).trans rfl⟩ (fun hHeld => ?_)
        clear hK K
        refine norm_ (a' := ?_) ?_ ?_
        rotate_left
        · show Act.put _ (some 27) _ = _
          simp only [Act.put, List.setIfInBounds_toArray, List.set_cons_zero, List.set_cons_succ, i64_w, i32_w]
          rfl
        refine pure_ (i := 11) (N := some 28) (v := ?_) (a' := ?_) #[yy,yy,yy,yy,yy,yy,yy,yy,yy,yy,yy,yy,nn,nn,nn,nn,nn,nn,nn,nn,nn,nn,nn,nn,nn] rfl rfl (any_of HT_.out (by kernel_rfl)) (fun _ _ _ h => h) (Or.inl ⟨by rfl, ?_⟩) ?_ ?_
        rotate_left
        · intro w'
          go_simp
          with_reducible rfl
        rotate_left
        · simp only [Act.put, List.setIfInBounds_toArray, List.set_cons_zero, List.set_cons_succ, i64_w, i32_w]
          rfl
        refine pure_ (i := 12) (N := some 29) (v := ?_) (a' := ?_) #[yy,yy,yy,yy,yy,yy,yy,yy,yy,yy,yy,yy,yy,nn,nn,nn,nn,nn,nn,nn,nn,nn,nn,nn,nn] rfl rfl (any_of HT_.out (by kernel_rfl)) (fun _ _ _ h => h) (Or.inl ⟨by rfl, ?_⟩) ?_ ?_
        rotate_left
        · intro w'
          go_simp
          with_reducible rfl
        rotate_left
        · simp only [Act.put, List.setIfInBounds_toArray, List.set_cons_zero, List.set_cons_succ, i64_w, i32_w]
          rfl
        refine pure_ (i := 13) (N := some 30) (v := ?_) (a' := ?_) #[yy,yy,yy,yy,yy,yy,yy,yy,yy,yy,yy,yy,yy,yy,nn,nn,nn,nn,nn,nn,nn,nn,nn,nn,nn] rfl rfl (any_of HT_.out (by kernel_rfl)) (fun _ _ _ h => h) (Or.inl ⟨by rfl, ?_⟩) ?_ ?_
        rotate_left
        · intro w'
          go_simp
          with_reducible rfl
        rotate_left
        · simp only [Act.put, List.setIfInBounds_toArray, List.set_cons_zero, List.set_cons_succ, i64_w, i32_w]
          rfl
        refine take_ (i := 14) (N := some 31) (v := ?_) (a' := ?_) #[yy,yy,yy,yy,yy,yy,yy,yy,yy,yy,yy,yy,yy,yy,yy,nn,nn,nn,nn,nn,nn,nn,nn,nn,nn] rfl rfl (take_ofW HT_.out HW_.out (by kernel_rfl)) (fun _ _ _ h => h) (Or.inl ⟨by rfl, ?_⟩) hHeld ?_ ?_
        rotate_left
        · rintro w' ⟨s0, s1, s2, s3⟩
          go_simp
          with_reducible rfl
        rotate_left
        · simp only [Act.put, List.setIfInBounds_toArray, List.set_cons_zero, List.set_cons_succ, i64_w, i32_w]
          rfl
        refine take_ (i := 15) (N := some 32) (v := ?_) (a' := ?_) #[yy,yy,yy,yy,yy,yy,yy,yy,yy,yy,yy,yy,yy,yy,yy,yy,nn,nn,nn,nn,nn,nn,nn,nn,nn] rfl rfl (take_ofW HT_.out HW_.out (by kernel_rfl)) (fun _ _ _ h => h) (Or.inl ⟨by rfl, ?_⟩) hHeld ?_ ?_
        rotate_left
        · rintro w' ⟨s0, s1, s2, s3⟩
          go_simp
          with_reducible rfl
        rotate_left
        · simp only [Act.put, List.setIfInBounds_toArray, List.set_cons_zero, List.set_cons_succ, i64_w, i32_w]
          rfl
        refine one_ (i := 16) (N := some 33) #[yy,yy,yy,yy,yy,yy,yy,yy,yy,yy,yy,yy,yy,yy,yy,yy,yy,nn,nn,nn,nn,nn,nn,nn,nn] rfl rfl (one_of HT_.out (by kernel_rfl)) (by decide) (fun K hK => ?_)
        refine goes_ Try.func46 (by kernel_rfl) rfl #[.agg #[.int .i64 t102, .int .i64 t103], .agg #[.int .i64 t102, .int .i64 t103]] (by rfl) rfl rfl (by (try simp only [List.map_toArray, List.map_cons, List.map_nil]); first | done | rfl | (simp only [List.length_drop, List.length_take]; rfl)) ?_
        with_reducible refine (impl_ShareLess.calls t102 t103 t102 t103 true _ A24.out).mono ?_
        rintro e w29 ⟨rfl, hb⟩
        refine ⟨_, rfl, ?_⟩
        have n0_ := aM (blk_below (g := gb106) (o := .cells #[.int .i64 t102, .int .i64 t103] 50 (0, 0)) (by (with_reducible repeat (first | apply bkD | apply bkd | apply bkA)); exact BK106.out) hb)
        have n1_ := aM (blk_below (g := gb107) (o := .cells #[.int .i64 t104, .int .i64 t105] 50 (0, 0)) (by (with_reducible repeat (first | apply bkD | apply bkd | apply bkA)); exact BK107.out) hb)
        have n2_ := aM (below_step (by repeat (first | (with_reducible first | exact HB.out | apply beA | apply beD | apply bed | refine beS ?_ GE106.out | refine beS ?_ GE107.out) | exact HB.out)) hb)
        clear BK106
        clear BK107
        clear HB
        have BK106 := n0_
        have BK107 := n1_
        have HB := n2_
        clear n0_ n1_ n2_
        (try clear hb)
        (try clear hb2)
        (try clear hk)
        (try clear hi)
        refine hK.out _ _ ⟨(blk_cell BK106.out 0).trans rfl, (blk_cell BK106.out 1).trans rfl, (blk_cell BK107.out 0).trans rfl, (blk_cell BK107.out 1).trans rfl⟩ (fun hHeld => ?_)
        clear hK K
        refine norm_ (a' := ?_) ?_ ?_
        rotate_left
        · show Act.put _ (some 33) _ = _
          simp only [Act.put, List.setIfInBounds_toArray, List.set_cons_zero, List.set_cons_succ, i64_w, i32_w]
          rfl
        refine pure_ (i := 17) (N := some 34) (v := ?_) (a' := ?_) #[yy,yy,yy,yy,yy,yy,yy,yy,yy,yy,yy,yy,yy,yy,yy,yy,yy,yy,nn,nn,nn,nn,nn,nn,nn] rfl rfl (any_of HT_.out (by kernel_rfl)) (fun _ _ _ h => h) (Or.inl ⟨by rfl, ?_⟩) ?_ ?_
        rotate_left
        · intro w'
          go_simp
          with_reducible rfl
        rotate_left
        · simp only [Act.put, List.setIfInBounds_toArray, List.set_cons_zero, List.set_cons_succ, i64_w, i32_w]
          rfl
        refine pure_ (i := 18) (N := some 35) (v := ?_) (a' := ?_) #[yy,yy,yy,yy,yy,yy,yy,yy,yy,yy,yy,yy,yy,yy,yy,yy,yy,yy,yy,nn,nn,nn,nn,nn,nn] rfl rfl (any_of HT_.out (by kernel_rfl)) (fun _ _ _ h => h) (Or.inl ⟨by rfl, ?_⟩) ?_ ?_
        rotate_left
        · intro w'
          go_simp
          with_reducible rfl
        rotate_left
        · simp only [Act.put, List.setIfInBounds_toArray, List.set_cons_zero, List.set_cons_succ, i64_w, i32_w]
          rfl
        refine pure_ (i := 19) (N := some 36) (v := undef) (a' := ?_) #[yy,yy,yy,yy,yy,yy,yy,yy,yy,yy,yy,yy,yy,yy,yy,yy,yy,yy,yy,yy,nn,nn,nn,nn,nn] rfl rfl (any_of HT_.out (by kernel_rfl)) (fun _ _ _ h => h) (Or.inr ⟨by rfl, rfl⟩) ?_ ?_
        rotate_left
        · simp only [Act.put, List.setIfInBounds_toArray, List.set_cons_zero, List.set_cons_succ, i64_w, i32_w]
          rfl
        refine pure_ (i := 20) (N := some 37) (v := undef) (a' := ?_) #[yy,yy,yy,yy,yy,yy,yy,yy,yy,yy,yy,yy,yy,yy,yy,yy,yy,yy,yy,yy,yy,nn,nn,nn,nn] rfl rfl (any_of HT_.out (by kernel_rfl)) (fun _ _ _ h => h) (Or.inr ⟨by rfl, rfl⟩) ?_ ?_
        rotate_left
        · simp only [Act.put, List.setIfInBounds_toArray, List.set_cons_zero, List.set_cons_succ, i64_w, i32_w]
          rfl
        refine pure_ (i := 21) (N := some 38) (v := undef) (a' := ?_) #[yy,yy,yy,yy,yy,yy,yy,yy,yy,yy,yy,yy,yy,yy,yy,yy,yy,yy,yy,yy,yy,yy,nn,nn,nn] rfl rfl (any_of HT_.out (by kernel_rfl)) (fun _ _ _ h => h) (Or.inr ⟨by rfl, rfl⟩) ?_ ?_
        rotate_left
        · simp only [Act.put, List.setIfInBounds_toArray, List.set_cons_zero, List.set_cons_succ, i64_w, i32_w]
          rfl
        refine pure_ (i := 22) (N := some 39) (v := undef) (a' := ?_) #[yy,yy,yy,yy,yy,yy,yy,yy,yy,yy,yy,yy,yy,yy,yy,yy,yy,yy,yy,yy,yy,yy,yy,nn,nn] rfl rfl (any_of HT_.out (by kernel_rfl)) (fun _ _ _ h => h) (Or.inr ⟨by rfl, rfl⟩) ?_ ?_
        rotate_left
        · simp only [Act.put, List.setIfInBounds_toArray, List.set_cons_zero, List.set_cons_succ, i64_w, i32_w]
          rfl
        refine pure_ (i := 23) (N := some 40) (v := undef) (a' := ?_) #[yy,yy,yy,yy,yy,yy,yy,yy,yy,yy,yy,yy,yy,yy,yy,yy,yy,yy,yy,yy,yy,yy,yy,yy,nn] rfl rfl (any_of HT_.out (by kernel_rfl)) (fun _ _ _ h => h) (Or.inr ⟨by rfl, rfl⟩) ?_ ?_
        rotate_left
        · simp only [Act.put, List.setIfInBounds_toArray, List.set_cons_zero, List.set_cons_succ, i64_w, i32_w]
          rfl
        refine pure_ (i := 24) (N := some 41) (v := ?_) (a' := ?_) #[yy,yy,yy,yy,yy,yy,yy,yy,yy,yy,yy,yy,yy,yy,yy,yy,yy,yy,yy,yy,yy,yy,yy,yy,yy] rfl rfl (any_of HT_.out (by kernel_rfl)) (fun _ _ _ h => h) (Or.inl ⟨by rfl, ?_⟩) ?_ ?_
        rotate_left
        · intro w'
          go_simp
          with_reducible rfl
        rotate_left
        · simp only [Act.put, List.setIfInBounds_toArray, List.set_cons_zero, List.set_cons_succ, i64_w, i32_w]
          rfl
        refine done_ (done_of HT_.out (by kernel_rfl)) ?_
        try go_wp2
        go_meet
        case rel => exact ⟨_, (true), (by first | rfl | (simp; done) | (simp [*]; done)), H', ⟨by first | omega | exact Nat.le_refl _⟩, ⟨by (with_reducible repeat (first | apply bkD | apply bkd | apply bkA)); exact BK106.out⟩, ⟨by (with_reducible repeat (first | apply bkD | apply bkd | apply bkA)); exact BK107.out⟩, ⟨by repeat (first | (with_reducible first | exact HB.out | apply beA | apply beD | apply bed | refine beS ?_ GE106.out | refine beS ?_ GE107.out) | exact HB.out)⟩⟩
      replace c25 := Bool.eq_false_iff.mpr c25
      subst c25
      have H1 : ((impl_ShareOk.f t102 t103).bind fun t112 => ((spec_ShareOk.f t102 t103).bind fun t113 => (laws_FnOrder.j0 k l0 true (t112 != t113) t102 t103 t104 t105))) = some r := by rw [if_neg (show ¬ (false = true) by decide)] at H; exact H
      clear H
      have H := H1
      clear H1
      replace H := Option.bind_eq_some_iff.mp H
      obtain ⟨t112, A300, H⟩ := H
      replace H : ((spec_ShareOk.f t102 t103).bind fun t113 => (laws_FnOrder.j0 k l0 true (t112 != t113) t102 t103 t104 t105)) = some r := H
      have A30 := Aside0.mk A300
      clear A300
      replace H := Option.bind_eq_some_iff.mp H
      obtain ⟨t113, A310, H⟩ := H
      replace H : (laws_FnOrder.j0 k l0 true (t112 != t113) t102 t103 t104 t105) = some r := H
      have A31 := Aside0.mk A310
      clear A310
      have H' := Aside0.mk H
      clear H
      try go_wp2
      have n0_ := aM (blk_drew BK106.out)
      have n1_ := aM (blk_drew BK107.out)
      have n2_ := aM (below_drew1 HB.out)
      clear BK106
      clear BK107
      clear HB
      have BK106 := n0_
      have BK107 := n1_
      have HB := n2_
      clear n0_ n1_ n2_
      refine start_ (n := 25) (S := fun w' => w'.cell? ⟨gb106, 0, none⟩ = some (.int .i64 t102) ∧ w'.cell? ⟨gb106, 1, none⟩ = some (.int .i64 t103) ∧ w'.cell? ⟨gb107, 0, none⟩ = some (.int .i64 t104) ∧ w'.cell? ⟨gb107, 1, none⟩ = some (.int .i64 t105)) (ds := []) #[nn,nn,nn,nn,nn,nn,nn,nn,nn,nn,nn,nn,nn,nn,nn,nn,nn,nn,nn,nn,nn,nn,nn,nn,nn] (by kernel_rfl) rfl rfl ⟨(blk_cell BK106.out 0).trans rfl, (blk_cell BK106.out 1).trans rfl, (blk_cell BK107.out 0).trans rfl, (blk_cell BK107.out 1).trans rfl⟩ (fun hHeld => ?_); refine with_tabW laws_FnOrder.tab5 laws_FnOrder.bits5 (fun HT_ HW_ => ?_)
      generalize w13.drew = w32 at BK106 BK107 HB hHeld ⊢
      refine pure_ (i := 0) (N := some 17) (v := ?_) (a' := ?_) #[yy,nn,nn,nn,nn,nn,nn,nn,nn,nn,nn,nn,nn,nn,nn,nn,nn,nn,nn,nn,nn,nn,nn,nn,nn] rfl rfl (any_of HT_.out (by kernel_rfl)) (fun _ _ _ h => h) (Or.inl ⟨by rfl, ?_⟩) ?_ ?_
      rotate_left
      · intro w'
        go_simp
        with_reducible rfl
      rotate_left
      · simp only [Act.put, List.setIfInBounds_toArray, List.set_cons_zero, List.set_cons_succ, i64_w, i32_w]
        rfl
      refine take_ (i := 1) (N := some 18) (v := ?_) (a' := ?_) #[yy,yy,nn,nn,nn,nn,nn,nn,nn,nn,nn,nn,nn,nn,nn,nn,nn,nn,nn,nn,nn,nn,nn,nn,nn] rfl rfl (take_ofW HT_.out HW_.out (by kernel_rfl)) (fun _ _ _ h => h) (Or.inl ⟨by rfl, ?_⟩) hHeld ?_ ?_
      rotate_left
      · rintro w' ⟨s0, s1, s2, s3⟩
        go_simp
        with_reducible rfl
      rotate_left
      · simp only [Act.put, List.setIfInBounds_toArray, List.set_cons_zero, List.set_cons_succ, i64_w, i32_w]
        rfl
      refine take_ (i := 2) (N := some 19) (v := ?_) (a' := ?_) #[yy,yy,yy,nn,nn,nn,nn,nn,nn,nn,nn,nn,nn,nn,nn,nn,nn,nn,nn,nn,nn,nn,nn,nn,nn] rfl rfl (take_ofW HT_.out HW_.out (by kernel_rfl)) (fun _ _ _ h => h) (Or.inl ⟨by rfl, ?_⟩) hHeld ?_ ?_
      rotate_left
      · rintro w' ⟨s0, s1, s2, s3⟩
        go_simp
        with_reducible rfl
      rotate_left
      · simp only [Act.put, List.setIfInBounds_toArray, List.set_cons_zero, List.set_cons_succ, i64_w, i32_w]
        rfl
      refine one_ (i := 3) (N := some 20) #[yy,yy,yy,yy,nn,nn,nn,nn,nn,nn,nn,nn,nn,nn,nn,nn,nn,nn,nn,nn,nn,nn,nn,nn,nn] rfl rfl (one_of HT_.out (by kernel_rfl)) (by decide) (fun K hK => ?_)
      refine goes_ Try.func47 (by kernel_rfl) rfl #[.agg #[.int .i64 t102, .int .i64 t103], .agg #[.int .i64 t104, .int .i64 t105]] (by rfl) rfl rfl (by (try simp only [List.map_toArray, List.map_cons, List.map_nil]); first | done | rfl | (simp only [List.length_drop, List.length_take]; rfl)) ?_
      with_reducible refine (spec_ShareLess.calls t102 t103 t104 t105 t109 _ A14.out).mono ?_
      rintro e w33 ⟨rfl, hb⟩
      refine ⟨_, rfl, ?_⟩
      have n0_ := aM (blk_below (g := gb106) (o := .cells #[.int .i64 t102, .int .i64 t103] 50 (0, 0)) (by (with_reducible repeat (first | apply bkD | apply bkd | apply bkA)); exact BK106.out) hb)
      have n1_ := aM (blk_below (g := gb107) (o := .cells #[.int .i64 t104, .int .i64 t105] 50 (0, 0)) (by (with_reducible repeat (first | apply bkD | apply bkd | apply bkA)); exact BK107.out) hb)
      have n2_ := aM (below_step (by repeat (first | (with_reducible first | exact HB.out | apply beA | apply beD | apply bed | refine beS ?_ GE106.out | refine beS ?_ GE107.out) | exact HB.out)) hb)
      clear BK106
      clear BK107
      clear HB
      have BK106 := n0_
      have BK107 := n1_
      have HB := n2_
      clear n0_ n1_ n2_
      (try clear hb)
      (try clear hb2)
      (try clear hk)
      (try clear hi)
      refine hK.out _ _ ⟨(blk_cell BK106.out 0).trans rfl, (blk_cell BK106.out 1).trans rfl, (blk_cell BK107.out 0).trans rfl, (blk_cell BK107.out 1).trans rfl⟩ (fun hHeld => ?_)
      clear hK K
      refine norm_ (a' := ?_) ?_ ?_
      rotate_left
      · show Act.put _ (some 20) _ = _
        simp only [Act.put, List.setIfInBounds_toArray, List.set_cons_zero, List.set_cons_succ, i64_w, i32_w]
        rfl
      refine pure_ (i := 4) (N := some 21) (v := ?_) (a' := ?_) #[yy,yy,yy,yy,yy,nn,nn,nn,nn,nn,nn,nn,nn,nn,nn,nn,nn,nn,nn,nn,nn,nn,nn,nn,nn] rfl rfl (any_of HT_.out (by kernel_rfl)) (fun _ _ _ h => h) (Or.inl ⟨by rfl, ?_⟩) ?_ ?_
      rotate_left
      · intro w'
        go_simp
        with_reducible rfl
      rotate_left
      · simp only [Act.put, List.setIfInBounds_toArray, List.set_cons_zero, List.set_cons_succ, i64_w, i32_w]
        rfl
      refine pure_ (i := 5) (N := some 22) (v := ?_) (a' := ?_) #[yy,yy,yy,yy,yy,yy,nn,nn,nn,nn,nn,nn,nn,nn,nn,nn,nn,nn,nn,nn,nn,nn,nn,nn,nn] rfl rfl (any_of HT_.out (by kernel_rfl)) (fun _ _ _ h => h) (Or.inl ⟨by rfl, ?_⟩) ?_ ?_
      rotate_left
      · intro w'
        go_simp
        with_reducible rfl
      rotate_left
      · simp only [Act.put, List.setIfInBounds_toArray, List.set_cons_zero, List.set_cons_succ, i64_w, i32_w]
        rfl
      refine pure_ (i := 6) (N := some 23) (v := ?_) (a' := ?_) #[yy,yy,yy,yy,yy,yy,yy,nn,nn,nn,nn,nn,nn,nn,nn,nn,nn,nn,nn,nn,nn,nn,nn,nn,nn] rfl rfl (any_of HT_.out (by kernel_rfl)) (fun _ _ _ h => h) (Or.inl ⟨by rfl, ?_⟩) ?_ ?_
      rotate_left
      · intro w'
        go_simp
        with_reducible rfl
      rotate_left
      · simp only [Act.put, List.setIfInBounds_toArray, List.set_cons_zero, List.set_cons_succ, i64_w, i32_w]
        rfl
      refine pure_ (i := 7) (N := some 24) (v := ?_) (a' := ?_) #[yy,yy,yy,yy,yy,yy,yy,yy,nn,nn,nn,nn,nn,nn,nn,nn,nn,nn,nn,nn,nn,nn,nn,nn,nn] rfl rfl (any_of HT_.out (by kernel_rfl)) (fun _ _ _ h => h) (Or.inl ⟨by rfl, ?_⟩) ?_ ?_
      rotate_left
      · intro w'
        go_simp
        with_reducible rfl
      rotate_left
      · simp only [Act.put, List.setIfInBounds_toArray, List.set_cons_zero, List.set_cons_succ, i64_w, i32_w]
        rfl
      refine take_ (i := 8) (N := some 25) (v := ?_) (a' := ?_) #[yy,yy,yy,yy,yy,yy,yy,yy,yy,nn,nn,nn,nn,nn,nn,nn,nn,nn,nn,nn,nn,nn,nn,nn,nn] rfl rfl (take_ofW HT_.out HW_.out (by kernel_rfl)) (fun _ _ _ h => h) (Or.inl ⟨by rfl, ?_⟩) hHeld ?_ ?_
      rotate_left
      · rintro w' ⟨s0, s1, s2, s3⟩
        go_simp
        with_reducible rfl
      rotate_left
      · simp only [Act.put, List.setIfInBounds_toArray, List.set_cons_zero, List.set_cons_succ, i64_w, i32_w]
        rfl
      refine take_ (i := 9) (N := some 26) (v := ?_) (a' := ?_) #[yy,yy,yy,yy,yy,yy,yy,yy,yy,yy,nn,nn,nn,nn,nn,nn,nn,nn,nn,nn,nn,nn,nn,nn,nn] rfl rfl (take_ofW HT_.out HW_.out (by kernel_rfl)) (fun _ _ _ h => h) (Or.inl ⟨by rfl, ?_⟩) hHeld ?_ ?_
      rotate_left
      · rintro w' ⟨s0, s1, s2, s3⟩
        go_simp
        with_reducible rfl
      rotate_left
      · simp only [Act.put, List.setIfInBounds_toArray, List.set_cons_zero, List.set_cons_succ, i64_w, i32_w]
        rfl
      refine one_ (i := 10) (N := some 27) #[yy,yy,yy,yy,yy,yy,yy,yy,yy,yy,yy,nn,nn,nn,nn,nn,nn,nn,nn,nn,nn,nn,nn,nn,nn] rfl rfl (one_of HT_.out (by kernel_rfl)) (by decide) (fun K hK => ?_)
      refine goes_ Try.func46 (by kernel_rfl) rfl #[.agg #[.int .i64 t104, .int .i64 t105], .agg #[.int .i64 t102, .int .i64 t103]] (by rfl) rfl rfl (by (try simp only [List.map_toArray, List.map_cons, List.map_nil]); first | done | rfl | (simp only [List.length_drop, List.length_take]; rfl)) ?_
      with_reducible refine (impl_ShareLess.calls t104 t105 t102 t103 false _ A19.out).mono ?_
      rintro e w34 ⟨rfl, hb⟩
      refine ⟨_, rfl, ?_⟩
      have n0_ := aM (blk_below (g := gb106) (o := .cells #[.int .i64 t102, .int .i64 t103] 50 (0, 0)) (by (with_reducible repeat (first | apply bkD | apply bkd | apply bkA)); exact BK106.out) hb)
      have n1_ := aM (blk_below (g := gb107) (o := .cells #[.int .i64 t104, .int .i64 t105] 50 (0, 0)) (by (with_reducible repeat (first | apply bkD | apply bkd | apply bkA)); exact BK107.out) hb)
      have n2_ := aM (below_step (by repeat (first | (with_reducible first | exact HB.out | apply beA | apply beD | apply bed | refine beS ?_ GE106.out | refine beS ?_ GE107.out) | exact HB.out)) hb)
      clear BK106
      clear BK107
      clear HB
      have BK106 := n0_
      have BK107 := n1_
      have HB := n2_
      clear n0_ n1_ n2_
      (try clear hb)
      (try clear hb2)
      (try clear hk)
      (try clear hi)
      refine hK.out _ _ ⟨(blk_cell BK106.out 0).trans rfl, (blk_cell BK106.out 1).trans rfl, (blk_cell BK107.out 0).trans rfl, (blk_cell BK107.out 1).trans rfl⟩ (fun hHeld => ?_)
      clear hK K
      refine norm_ (a' := ?_) ?_ ?_
      rotate_left
      · show Act.put _ (some 27) _ = _
        simp only [Act.put, List.setIfInBounds_toArray, List.set_cons_zero, List.set_cons_succ, i64_w, i32_w]
        rfl
      refine pure_ (i := 11) (N := some 28) (v := ?_) (a' := ?_) #[yy,yy,yy,yy,yy,yy,yy,yy,yy,yy,yy,yy,nn,nn,nn,nn,nn,nn,nn,nn,nn,nn,nn,nn,nn] rfl rfl (any_of HT_.out (by kernel_rfl)) (fun _ _ _ h => h) (Or.inl ⟨by rfl, ?_⟩) ?_ ?_
      rotate_left
      · intro w'
        go_simp
        with_reducible rfl
      rotate_left
      · simp only [Act.put, List.setIfInBounds_toArray, List.set_cons_zero, List.set_cons_succ, i64_w, i32_w]
        rfl
      refine pure_ (i := 12) (N := some 29) (v := ?_) (a' := ?_) #[yy,yy,yy,yy,yy,yy,yy,yy,yy,yy,yy,yy,yy,nn,nn,nn,nn,nn,nn,nn,nn,nn,nn,nn,nn] rfl rfl (any_of HT_.out (by kernel_rfl)) (fun _ _ _ h => h) (Or.inl ⟨by rfl, ?_⟩) ?_ ?_
      rotate_left
      · intro w'
        go_simp
        with_reducible rfl
      rotate_left
      · simp only [Act.put, List.setIfInBounds_toArray, List.set_cons_zero, List.set_cons_succ, i64_w, i32_w]
        rfl
      refine pure_ (i := 13) (N := some 30) (v := ?_) (a' := ?_) #[yy,yy,yy,yy,yy,yy,yy,yy,yy,yy,yy,yy,yy,yy,nn,nn,nn,nn,nn,nn,nn,nn,nn,nn,nn] rfl rfl (any_of HT_.out (by kernel_rfl)) (fun _ _ _ h => h) (Or.inl ⟨by rfl, ?_⟩) ?_ ?_
      rotate_left
      · intro w'
        go_simp
        with_reducible rfl
      rotate_left
      · simp only [Act.put, List.setIfInBounds_toArray, List.set_cons_zero, List.set_cons_succ, i64_w, i32_w]
        rfl
      refine take_ (i := 14) (N := some 31) (v := ?_) (a' := ?_) #[yy,yy,yy,yy,yy,yy,yy,yy,yy,yy,yy,yy,yy,yy,yy,nn,nn,nn,nn,nn,nn,nn,nn,nn,nn] rfl rfl (take_ofW HT_.out HW_.out (by kernel_rfl)) (fun _ _ _ h => h) (Or.inl ⟨by rfl, ?_⟩) hHeld ?_ ?_
      rotate_left
      · rintro w' ⟨s0, s1, s2, s3⟩
        go_simp
        with_reducible rfl
      rotate_left
      · simp only [Act.put, List.setIfInBounds_toArray, List.set_cons_zero, List.set_cons_succ, i64_w, i32_w]
        rfl
      refine take_ (i := 15) (N := some 32) (v := ?_) (a' := ?_) #[yy,yy,yy,yy,yy,yy,yy,yy,yy,yy,yy,yy,yy,yy,yy,yy,nn,nn,nn,nn,nn,nn,nn,nn,nn] rfl rfl (take_ofW HT_.out HW_.out (by kernel_rfl)) (fun _ _ _ h => h) (Or.inl ⟨by rfl, ?_⟩) hHeld ?_ ?_
      rotate_left
      · rintro w' ⟨s0, s1, s2, s3⟩
        go_simp
        with_reducible rfl
      rotate_left
      · simp only [Act.put, List.setIfInBounds_toArray, List.set_cons_zero, List.set_cons_succ, i64_w, i32_w]
        rfl
      refine one_ (i := 16) (N := some 33) #[yy,yy,yy,yy,yy,yy,yy,yy,yy,yy,yy,yy,yy,yy,yy,yy,yy,nn,nn,nn,nn,nn,nn,nn,nn] rfl rfl (one_of HT_.out (by kernel_rfl)) (by decide) (fun K hK => ?_)
      refine goes_ Try.func46 (by kernel_rfl) rfl #[.agg #[.int .i64 t102, .int .i64 t103], .agg #[.int .i64 t102, .int .i64 t103]] (by rfl) rfl rfl (by (try simp only [List.map_toArray, List.map_cons, List.map_nil]); first | done | rfl | (simp only [List.length_drop, List.length_take]; rfl)) ?_
      with_reducible refine (impl_ShareLess.calls t102 t103 t102 t103 false _ A24.out).mono ?_
      rintro e w35 ⟨rfl, hb⟩
      refine ⟨_, rfl, ?_⟩
      have n0_ := aM (blk_below (g := gb106) (o := .cells #[.int .i64 t102, .int .i64 t103] 50 (0, 0)) (by (with_reducible repeat (first | apply bkD | apply bkd | apply bkA)); exact BK106.out) hb)
      have n1_ := aM (blk_below (g := gb107) (o := .cells #[.int .i64 t104, .int .i64 t105] 50 (0, 0)) (by (with_reducible repeat (first | apply bkD | apply bkd | apply bkA)); exact BK107.out) hb)
      have n2_ := aM (below_step (by repeat (first | (with_reducible first | exact HB.out | apply beA | apply beD | apply bed | refine beS ?_ GE106.out | refine beS ?_ GE107.out) | exact HB.out)) hb)
      clear BK106
      clear BK107
      clear HB
      have BK106 := n0_
      have BK107 := n1_
      have HB := n2_
      clear n0_ n1_ n2_
      (try clear hb)
      (try clear hb2)
      (try clear hk)
      (try clear hi)
      refine hK.out _ _ ⟨(blk_cell BK106.out 0).trans rfl, (blk_cell BK106.out 1).trans rfl, (blk_cell BK107.out 0).trans rfl, (blk_cell BK107.out 1).trans rfl⟩ (fun hHeld => ?_)
      clear hK K
      refine norm_ (a' := ?_) ?_ ?_
      rotate_left
      · show Act.put _ (some 33) _ = _
        simp only [Act.put, List.setIfInBounds_toArray, List.set_cons_zero, List.set_cons_succ, i64_w, i32_w]
        rfl
      refine pure_ (i := 17) (N := some 34) (v := ?_) (a' := ?_) #[yy,yy,yy,yy,yy,yy,yy,yy,yy,yy,yy,yy,yy,yy,yy,yy,yy,yy,nn,nn,nn,nn,nn,nn,nn] rfl rfl (any_of HT_.out (by kernel_rfl)) (fun _ _ _ h => h) (Or.inl ⟨by rfl, ?_⟩) ?_ ?_
      rotate_left
      · intro w'
        go_simp
        with_reducible rfl
      rotate_left
      · simp only [Act.put, List.setIfInBounds_toArray, List.set_cons_zero, List.set_cons_succ, i64_w, i32_w]
        rfl
      refine pure_ (i := 18) (N := some 35) (v := ?_) (a' := ?_) #[yy,yy,yy,yy,yy,yy,yy,yy,yy,yy,yy,yy,yy,yy,yy,yy,yy,yy,yy,nn,nn,nn,nn,nn,nn] rfl rfl (any_of HT_.out (by kernel_rfl)) (fun _ _ _ h => h) (Or.inl ⟨by rfl, ?_⟩) ?_ ?_
      rotate_left
      · intro w'
        go_simp
        with_reducible rfl
      rotate_left
      · simp only [Act.put, List.setIfInBounds_toArray, List.set_cons_zero, List.set_cons_succ, i64_w, i32_w]
        rfl
      refine take_ (i := 19) (N := some 36) (v := ?_) (a' := ?_) #[yy,yy,yy,yy,yy,yy,yy,yy,yy,yy,yy,yy,yy,yy,yy,yy,yy,yy,yy,yy,nn,nn,nn,nn,nn] rfl rfl (take_ofW HT_.out HW_.out (by kernel_rfl)) (fun _ _ _ h => h) (Or.inl ⟨by rfl, ?_⟩) hHeld ?_ ?_
      rotate_left
      · rintro w' ⟨s0, s1, s2, s3⟩
        go_simp
        with_reducible rfl
      rotate_left
      · simp only [Act.put, List.setIfInBounds_toArray, List.set_cons_zero, List.set_cons_succ, i64_w, i32_w]
        rfl
      refine take_ (i := 21) (N := some 38) (v := ?_) (a' := ?_) #[yy,yy,yy,yy,yy,yy,yy,yy,yy,yy,yy,yy,yy,yy,yy,yy,yy,yy,yy,yy,nn,yy,nn,nn,nn] rfl rfl (take_ofW HT_.out HW_.out (by kernel_rfl)) (fun _ _ _ h => h) (Or.inl ⟨by rfl, ?_⟩) hHeld ?_ ?_
      rotate_left
      · rintro w' ⟨s0, s1, s2, s3⟩
        go_simp
        with_reducible rfl
      rotate_left
      · simp only [Act.put, List.setIfInBounds_toArray, List.set_cons_zero, List.set_cons_succ, i64_w, i32_w]
        rfl
      refine one_ (i := 20) (N := some 37) #[yy,yy,yy,yy,yy,yy,yy,yy,yy,yy,yy,yy,yy,yy,yy,yy,yy,yy,yy,yy,yy,yy,nn,nn,nn] rfl rfl (one_of HT_.out (by kernel_rfl)) (by decide) (fun K hK => ?_)
      refine goes_ Try.func48 (by kernel_rfl) rfl #[.agg #[.int .i64 t102, .int .i64 t103]] (by rfl) rfl rfl (by (try simp only [List.map_toArray, List.map_cons, List.map_nil]); first | done | rfl | (simp only [List.length_drop, List.length_take]; rfl)) ?_
      with_reducible refine (impl_ShareOk.calls t102 t103 t112 _ A30.out).mono ?_
      rintro e w36 ⟨rfl, hb⟩
      refine ⟨_, rfl, ?_⟩
      have n0_ := aM (blk_below (g := gb106) (o := .cells #[.int .i64 t102, .int .i64 t103] 50 (0, 0)) (by (with_reducible repeat (first | apply bkD | apply bkd | apply bkA)); exact BK106.out) hb)
      have n1_ := aM (blk_below (g := gb107) (o := .cells #[.int .i64 t104, .int .i64 t105] 50 (0, 0)) (by (with_reducible repeat (first | apply bkD | apply bkd | apply bkA)); exact BK107.out) hb)
      have n2_ := aM (below_step (by repeat (first | (with_reducible first | exact HB.out | apply beA | apply beD | apply bed | refine beS ?_ GE106.out | refine beS ?_ GE107.out) | exact HB.out)) hb)
      clear BK106
      clear BK107
      clear HB
      have BK106 := n0_
      have BK107 := n1_
      have HB := n2_
      clear n0_ n1_ n2_
      (try clear hb)
      (try clear hb2)
      (try clear hk)
      (try clear hi)
      refine hK.out _ _ ⟨(blk_cell BK106.out 0).trans rfl, (blk_cell BK106.out 1).trans rfl, (blk_cell BK107.out 0).trans rfl, (blk_cell BK107.out 1).trans rfl⟩ (fun hHeld => ?_)
      clear hK K
      refine norm_ (a' := ?_) ?_ ?_
      rotate_left
      · show Act.put _ (some 37) _ = _
        simp only [Act.put, List.setIfInBounds_toArray, List.set_cons_zero, List.set_cons_succ, i64_w, i32_w]
        rfl
      refine one_ (i := 22) (N := some 39) #[yy,yy,yy,yy,yy,yy,yy,yy,yy,yy,yy,yy,yy,yy,yy,yy,yy,yy,yy,yy,yy,yy,yy,nn,nn] rfl rfl (one_of HT_.out (by kernel_rfl)) (by decide) (fun K hK => ?_)
      refine goes_ Try.func49 (by kernel_rfl) rfl #[.agg #[.int .i64 t102, .int .i64 t103]] (by rfl) rfl rfl (by (try simp only [List.map_toArray, List.map_cons, List.map_nil]); first | done | rfl | (simp only [List.length_drop, List.length_take]; rfl)) ?_
      with_reducible refine (spec_ShareOk.calls t102 t103 t113 _ A31.out).mono ?_
      rintro e w37 ⟨rfl, hb⟩
      refine ⟨_, rfl, ?_⟩
      have n0_ := aM (blk_below (g := gb106) (o := .cells #[.int .i64 t102, .int .i64 t103] 50 (0, 0)) (by (with_reducible repeat (first | apply bkD | apply bkd | apply bkA)); exact BK106.out) hb)
      have n1_ := aM (blk_below (g := gb107) (o := .cells #[.int .i64 t104, .int .i64 t105] 50 (0, 0)) (by (with_reducible repeat (first | apply bkD | apply bkd | apply bkA)); exact BK107.out) hb)
      have n2_ := aM (below_step (by repeat (first | (with_reducible first | exact HB.out | apply beA | apply beD | apply bed | refine beS ?_ GE106.out | refine beS ?_ GE107.out) | exact HB.out)) hb)
      clear BK106
      clear BK107
      clear HB
      have BK106 := n0_
      have BK107 := n1_
      have HB := n2_
      clear n0_ n1_ n2_
      (try clear hb)
      (try clear hb2)
      (try clear hk)
      (try clear hi)
      refine hK.out _ _ ⟨(blk_cell BK106.out 0).trans rfl, (blk_cell BK106.out 1).trans rfl, (blk_cell BK107.out 0).trans rfl, (blk_cell BK107.out 1).trans rfl⟩ (fun hHeld => ?_)
      clear hK K
      refine norm_ (a' := ?_) ?_ ?_
      rotate_left
      · show Act.put _ (some 39) _ = _
        simp only [Act.put, List.setIfInBounds_toArray, List.set_cons_zero, List.set_cons_succ, i64_w, i32_w]
        rfl
      refine pure_ (i := 23) (N := some 40) (v := ?_) (a' := ?_) #[yy,yy,yy,yy,yy,yy,yy,yy,yy,yy,yy,yy,yy,yy,yy,yy,yy,yy,yy,yy,yy,yy,yy,yy,nn] rfl rfl (any_of HT_.out (by kernel_rfl)) (fun _ _ _ h => h) (Or.inl ⟨by rfl, ?_⟩) ?_ ?_
      rotate_left
      · intro w'
        go_simp
        with_reducible rfl
      rotate_left
      · simp only [Act.put, List.setIfInBounds_toArray, List.set_cons_zero, List.set_cons_succ, i64_w, i32_w]
        rfl
      refine pure_ (i := 24) (N := some 41) (v := ?_) (a' := ?_) #[yy,yy,yy,yy,yy,yy,yy,yy,yy,yy,yy,yy,yy,yy,yy,yy,yy,yy,yy,yy,yy,yy,yy,yy,yy] rfl rfl (any_of HT_.out (by kernel_rfl)) (fun _ _ _ h => h) (Or.inl ⟨by rfl, ?_⟩) ?_ ?_
      rotate_left
      · intro w'
        go_simp
        with_reducible rfl
      rotate_left
      · simp only [Act.put, List.setIfInBounds_toArray, List.set_cons_zero, List.set_cons_succ, i64_w, i32_w]
        rfl
      refine done_ (done_of HT_.out (by kernel_rfl)) ?_
      try go_wp2
      go_meet
      case rel => exact ⟨_, ((t112 != t113)), (by first | rfl | (simp; done) | (simp [*]; done)), H', ⟨by first | omega | exact Nat.le_refl _⟩, ⟨by (with_reducible repeat (first | apply bkD | apply bkd | apply bkA)); exact BK106.out⟩, ⟨by (with_reducible repeat (first | apply bkD | apply bkd | apply bkA)); exact BK107.out⟩, ⟨by repeat (first | (with_reducible first | exact HB.out | apply beA | apply beD | apply bed | refine beS ?_ GE106.out | refine beS ?_ GE107.out) | exact HB.out)⟩⟩
    replace c18 := Bool.eq_false_iff.mpr c18
    subst c18
    have H1 : ((impl_ShareLess.f t102 t103 t102 t103).bind fun t114 => (if t114 = true then (laws_FnOrder.j0 k l0 false true t102 t103 t104 t105) else ((impl_ShareOk.f t102 t103).bind fun t115 => ((spec_ShareOk.f t102 t103).bind fun t116 => (laws_FnOrder.j0 k l0 false (t115 != t116) t102 t103 t104 t105))))) = some r := by rw [if_neg (show ¬ (false = true) by decide)] at H; exact H
    clear H
    have H := H1
    clear H1
    replace H := Option.bind_eq_some_iff.mp H
    obtain ⟨t114, A380, H⟩ := H
    replace H : (if t114 = true then (laws_FnOrder.j0 k l0 false true t102 t103 t104 t105) else ((impl_ShareOk.f t102 t103).bind fun t115 => ((spec_ShareOk.f t102 t103).bind fun t116 => (laws_FnOrder.j0 k l0 false (t115 != t116) t102 t103 t104 t105)))) = some r := H
    have A38 := Aside0.mk A380
    clear A380
    by_cases c39 : t114 = true
    · subst c39
      have H1 : (laws_FnOrder.j0 k l0 false true t102 t103 t104 t105) = some r := by rw [if_pos rfl] at H; exact H
      clear H
      have H := H1
      clear H1
      have H' := Aside0.mk H
      clear H
      try go_wp2
      have n0_ := aM (blk_drew BK106.out)
      have n1_ := aM (blk_drew BK107.out)
      have n2_ := aM (below_drew1 HB.out)
      clear BK106
      clear BK107
      clear HB
      have BK106 := n0_
      have BK107 := n1_
      have HB := n2_
      clear n0_ n1_ n2_
      refine start_ (n := 25) (S := fun w' => w'.cell? ⟨gb106, 0, none⟩ = some (.int .i64 t102) ∧ w'.cell? ⟨gb106, 1, none⟩ = some (.int .i64 t103) ∧ w'.cell? ⟨gb107, 0, none⟩ = some (.int .i64 t104) ∧ w'.cell? ⟨gb107, 1, none⟩ = some (.int .i64 t105)) (ds := []) #[nn,nn,nn,nn,nn,nn,nn,nn,nn,nn,nn,nn,nn,nn,nn,nn,nn,nn,nn,nn,nn,nn,nn,nn,nn] (by kernel_rfl) rfl rfl ⟨(blk_cell BK106.out 0).trans rfl, (blk_cell BK106.out 1).trans rfl, (blk_cell BK107.out 0).trans rfl, (blk_cell BK107.out 1).trans rfl⟩ (fun hHeld => ?_); refine with_tabW laws_FnOrder.tab5 laws_FnOrder.bits5 (fun HT_ HW_ => ?_)
      generalize w13.drew = w40 at BK106 BK107 HB hHeld ⊢
      refine pure_ (i := 0) (N := some 17) (v := ?_) (a' := ?_) #[yy,nn,nn,nn,nn,nn,nn,nn,nn,nn,nn,nn,nn,nn,nn,nn,nn,nn,nn,nn,nn,nn,nn,nn,nn] rfl rfl (any_of HT_.out (by kernel_rfl)) (fun _ _ _ h => h) (Or.inl ⟨by rfl, ?_⟩) ?_ ?_
      rotate_left
      · intro w'
        go_simp
        with_reducible rfl
      rotate_left
      · simp only [Act.put, List.setIfInBounds_toArray, List.set_cons_zero, List.set_cons_succ, i64_w, i32_w]
        rfl
      refine take_ (i := 1) (N := some 18) (v := ?_) (a' := ?_) #[yy,yy,nn,nn,nn,nn,nn,nn,nn,nn,nn,nn,nn,nn,nn,nn,nn,nn,nn,nn,nn,nn,nn,nn,nn] rfl rfl (take_ofW HT_.out HW_.out (by kernel_rfl)) (fun _ _ _ h => h) (Or.inl ⟨by rfl, ?_⟩) hHeld ?_ ?_
      rotate_left
      · rintro w' ⟨s0, s1, s2, s3⟩
        go_simp
        with_reducible rfl
      rotate_left
      · simp only [Act.put, List.setIfInBounds_toArray, List.set_cons_zero, List.set_cons_succ, i64_w, i32_w]
        rfl
      refine take_ (i := 2) (N := some 19) (v := ?_) (a' := ?_) #[yy,yy,yy,nn,nn,nn,nn,nn,nn,nn,nn,nn,nn,nn,nn,nn,nn,nn,nn,nn,nn,nn,nn,nn,nn] rfl rfl (take_ofW HT_.out HW_.out (by kernel_rfl)) (fun _ _ _ h => h) (Or.inl ⟨by rfl, ?_⟩) hHeld ?_ ?_
      rotate_left
      · rintro w' ⟨s0, s1, s2, s3⟩
        go_simp
        with_reducible rfl
      rotate_left
      · simp only [Act.put, List.setIfInBounds_toArray, List.set_cons_zero, List.set_cons_succ, i64_w, i32_w]
        rfl
      refine one_ (i := 3) (N := some 20) #[yy,yy,yy,yy,nn,nn,nn,nn,nn,nn,nn,nn,nn,nn,nn,nn,nn,nn,nn,nn,nn,nn,nn,nn,nn] rfl rfl (one_of HT_.out (by kernel_rfl)) (by decide) (fun K hK => ?_)
      refine goes_ Try.func47 (by kernel_rfl) rfl #[.agg #[.int .i64 t102, .int .i64 t103], .agg #[.int .i64 t104, .int .i64 t105]] (by rfl) rfl rfl (by (try simp only [List.map_toArray, List.map_cons, List.map_nil]); first | done | rfl | (simp only [List.length_drop, List.length_take]; rfl)) ?_
      with_reducible refine (spec_ShareLess.calls t102 t103 t104 t105 t109 _ A14.out).mono ?_
      rintro e w41 ⟨rfl, hb⟩
      refine ⟨_, rfl, ?_⟩
      have n0_ := aM (blk_below (g := gb106) (o := .cells #[.int .i64 t102, .int .i64 t103] 50 (0, 0)) (by (with_reducible repeat (first | apply bkD | apply bkd | apply bkA)); exact BK106.out) hb)
      have n1_ := aM (blk_below (g := gb107) (o := .cells #[.int .i64 t104, .int .i64 t105] 50 (0, 0)) (by (with_reducible repeat (first | apply bkD | apply bkd | apply bkA)); exact BK107.out) hb)
      have n2_ := aM (below_step (by repeat (first | (with_reducible first | exact HB.out | apply beA | apply beD | apply bed | refine beS ?_ GE106.out | refine beS ?_ GE107.out) | exact HB.out)) hb)
      clear BK106
      clear BK107
      clear HB
      have BK106 := n0_
      have BK107 := n1_
      have HB := n2_
      clear n0_ n1_ n2_
      (try clear hb)
      (try clear hb2)
      (try clear hk)
      (try clear hi)
      refine hK.out _ _ ⟨(blk_cell BK106.out 0).trans rfl, (blk_cell BK106.out 1).trans rfl, (blk_cell BK107.out 0).trans rfl, (blk_cell BK107.out 1).trans rfl⟩ (fun hHeld => ?_)
      clear hK K
      refine norm_ (a' := ?_) ?_ ?_
      rotate_left
      · show Act.put _ (some 20) _ = _
        simp only [Act.put, List.setIfInBounds_toArray, List.set_cons_zero, List.set_cons_succ, i64_w, i32_w]
        rfl
      refine pure_ (i := 4) (N := some 21) (v := ?_) (a' := ?_) #[yy,yy,yy,yy,yy,nn,nn,nn,nn,nn,nn,nn,nn,nn,nn,nn,nn,nn,nn,nn,nn,nn,nn,nn,nn] rfl rfl (any_of HT_.out (by kernel_rfl)) (fun _ _ _ h => h) (Or.inl ⟨by rfl, ?_⟩) ?_ ?_
      rotate_left
      · intro w'
        go_simp
        with_reducible rfl
      rotate_left
      · simp only [Act.put, List.setIfInBounds_toArray, List.set_cons_zero, List.set_cons_succ, i64_w, i32_w]
        rfl
      refine pure_ (i := 5) (N := some 22) (v := ?_) (a' := ?_) #[yy,yy,yy,yy,yy,yy,nn,nn,nn,nn,nn,nn,nn,nn,nn,nn,nn,nn,nn,nn,nn,nn,nn,nn,nn] rfl rfl (any_of HT_.out (by kernel_rfl)) (fun _ _ _ h => h) (Or.inl ⟨by rfl, ?_⟩) ?_ ?_
      rotate_left
      · intro w'
        go_simp
        with_reducible rfl
      rotate_left
      · simp only [Act.put, List.setIfInBounds_toArray, List.set_cons_zero, List.set_cons_succ, i64_w, i32_w]
        rfl
      refine pure_ (i := 6) (N := some 23) (v := ?_) (a' := ?_) #[yy,yy,yy,yy,yy,yy,yy,nn,nn,nn,nn,nn,nn,nn,nn,nn,nn,nn,nn,nn,nn,nn,nn,nn,nn] rfl rfl (any_of HT_.out (by kernel_rfl)) (fun _ _ _ h => h) (Or.inl ⟨by rfl, ?_⟩) ?_ ?_
      rotate_left
      · intro w'
        go_simp
        with_reducible rfl
      rotate_left
      · simp only [Act.put, List.setIfInBounds_toArray, List.set_cons_zero, List.set_cons_succ, i64_w, i32_w]
        rfl
      refine pure_ (i := 7) (N := some 24) (v := ?_) (a' := ?_) #[yy,yy,yy,yy,yy,yy,yy,yy,nn,nn,nn,nn,nn,nn,nn,nn,nn,nn,nn,nn,nn,nn,nn,nn,nn] rfl rfl (any_of HT_.out (by kernel_rfl)) (fun _ _ _ h => h) (Or.inl ⟨by rfl, ?_⟩) ?_ ?_
      rotate_left
      · intro w'
        go_simp
        with_reducible rfl
      rotate_left
      · simp only [Act.put, List.setIfInBounds_toArray, List.set_cons_zero, List.set_cons_succ, i64_w, i32_w]
        rfl
      refine pure_ (i := 8) (N := some 25) (v := undef) (a' := ?_) #[yy,yy,yy,yy,yy,yy,yy,yy,yy,nn,nn,nn,nn,nn,nn,nn,nn,nn,nn,nn,nn,nn,nn,nn,nn] rfl rfl (any_of HT_.out (by kernel_rfl)) (fun _ _ _ h => h) (Or.inr ⟨by rfl, rfl⟩) ?_ ?_
      rotate_left
      · simp only [Act.put, List.setIfInBounds_toArray, List.set_cons_zero, List.set_cons_succ, i64_w, i32_w]
        rfl
      refine pure_ (i := 9) (N := some 26) (v := undef) (a' := ?_) #[yy,yy,yy,yy,yy,yy,yy,yy,yy,yy,nn,nn,nn,nn,nn,nn,nn,nn,nn,nn,nn,nn,nn,nn,nn] rfl rfl (any_of HT_.out (by kernel_rfl)) (fun _ _ _ h => h) (Or.inr ⟨by rfl, rfl⟩) ?_ ?_
      rotate_left
      · simp only [Act.put, List.setIfInBounds_toArray, List.set_cons_zero, List.set_cons_succ, i64_w, i32_w]
        rfl
      refine pure_ (i := 10) (N := some 27) (v := undef) (a' := ?_) #[yy,yy,yy,yy,yy,yy,yy,yy,yy,yy,yy,nn,nn,nn,nn,nn,nn,nn,nn,nn,nn,nn,nn,nn,nn] rfl rfl (any_of HT_.out (by kernel_rfl)) (fun _ _ _ h => h) (Or.inr ⟨by rfl, rfl⟩) ?_ ?_
      rotate_left
      · simp only [Act.put, List.setIfInBounds_toArray, List.set_cons_zero, List.set_cons_succ, i64_w, i32_w]
        rfl
      refine pure_ (i := 11) (N := some 28) (v := ?_) (a' := ?_) #[yy,yy,yy,yy,yy,yy,yy,yy,yy,yy,yy,yy,nn,nn,nn,nn,nn,nn,nn,nn,nn,nn,nn,nn,nn] rfl rfl (any_of HT_.out (by kernel_rfl)) (fun _ _ _ h => h) (Or.inl ⟨by rfl, ?_⟩) ?_ ?_
      rotate_left
      · intro w'
        go_simp
        with_reducible rfl
      rotate_left
      · simp only [Act.put, List.setIfInBounds_toArray, List.set_cons_zero, List.set_cons_succ, i64_w, i32_w]
        rfl
      refine pure_ (i := 12) (N := some 29) (v := ?_) (a' := ?_) #[yy,yy,yy,yy,yy,yy,yy,yy,yy,yy,yy,yy,yy,nn,nn,nn,nn,nn,nn,nn,nn,nn,nn,nn,nn] rfl rfl (any_of HT_.out (by kernel_rfl)) (fun _ _ _ h => h) (Or.inl ⟨by rfl, ?_⟩) ?_ ?_
      rotate_left
      · intro w'
        go_simp
        with_reducible rfl
      rotate_left
      · simp only [Act.put, List.setIfInBounds_toArray, List.set_cons_zero, List.set_cons_succ, i64_w, i32_w]
        rfl
      refine pure_ (i := 13) (N := some 30) (v := ?_) (a' := ?_) #[yy,yy,yy,yy,yy,yy,yy,yy,yy,yy,yy,yy,yy,yy,nn,nn,nn,nn,nn,nn,nn,nn,nn,nn,nn] rfl rfl (any_of HT_.out (by kernel_rfl)) (fun _ _ _ h => h) (Or.inl ⟨by rfl, ?_⟩) ?_ ?_
      rotate_left
      · intro w'
        go_simp
        with_reducible rfl
      rotate_left
      · simp only [Act.put, List.setIfInBounds_toArray, List.set_cons_zero, List.set_cons_succ, i64_w, i32_w]
        rfl
      refine take_ (i := 14) (N := some 31) (v := ?_) (a' := ?_) #[yy,yy,yy,yy,yy,yy,yy,yy,yy,yy,yy,yy,yy,yy,yy,nn,nn,nn,nn,nn,nn,nn,nn,nn,nn] rfl rfl (take_ofW HT_.out HW_.out (by kernel_rfl)) (fun _ _ _ h => h) (Or.inl ⟨by rfl, ?_⟩) hHeld ?_ ?_
      rotate_left
      · rintro w' ⟨s0, s1, s2, s3⟩
        go_simp
        with_reducible rfl
      rotate_left
      · simp only [Act.put, List.setIfInBounds_toArray, List.set_cons_zero, List.set_cons_succ, i64_w, i32_w]
        rfl
      refine take_ (i := 15) (N := some 32) (v := ?_) (a' := ?_) #[yy,yy,yy,yy,yy,yy,yy,yy,yy,yy,yy,yy,yy,yy,yy,yy,nn,nn,nn,nn,nn,nn,nn,nn,nn] rfl rfl (take_ofW HT_.out HW_.out (by kernel_rfl)) (fun _ _ _ h => h) (Or.inl ⟨by rfl, ?_⟩) hHeld ?_ ?_
      rotate_left
      · rintro w' ⟨s0, s1, s2, s3⟩
        go_simp
        with_reducible rfl
      rotate_left
      · simp only [Act.put, List.setIfInBounds_toArray, List.set_cons_zero, List.set_cons_succ, i64_w, i32_w]
        rfl
      refine one_ (i := 16) (N := some 33) #[yy,yy,yy,yy,yy,yy,yy,yy,yy,yy,yy,yy,yy,yy,yy,yy,yy,nn,nn,nn,nn,nn,nn,nn,nn] rfl rfl (one_of HT_.out (by kernel_rfl)) (by decide) (fun K hK => ?_)
      refine goes_ Try.func46 (by kernel_rfl) rfl #[.agg #[.int .i64 t102, .int .i64 t103], .agg #[.int .i64 t102, .int .i64 t103]] (by rfl) rfl rfl (by (try simp only [List.map_toArray, List.map_cons, List.map_nil]); first | done | rfl | (simp only [List.length_drop, List.length_take]; rfl)) ?_
      with_reducible refine (impl_ShareLess.calls t102 t103 t102 t103 true _ A38.out).mono ?_
      rintro e w42 ⟨rfl, hb⟩
      refine ⟨_, rfl, ?_⟩
      have n0_ := aM (blk_below (g := gb106) (o := .cells #[.int .i64 t102, .int .i64 t103] 50 (0, 0)) (by (with_reducible repeat (first | apply bkD | apply bkd | apply bkA)); exact BK106.out) hb)
      have n1_ := aM (blk_below (g := gb107) (o := .cells #[.int .i64 t104, .int .i64 t105] 50 (0, 0)) (by (with_reducible repeat (first | apply bkD | apply bkd | apply bkA)); exact BK107.out) hb)
      have n2_ := aM (below_step (by repeat (first | (with_reducible first | exact HB.out | apply beA | apply beD | apply bed | refine beS ?_ GE106.out | refine beS ?_ GE107.out) | exact HB.out)) hb)
      clear BK106
      clear BK107
      clear HB
      have BK106 := n0_
      have BK107 := n1_
      have HB := n2_
      clear n0_ n1_ n2_
      (try clear hb)
      (try clear hb2)
      (try clear hk)
      (try clear hi)
      refine hK.out _ _ ⟨(blk_cell BK106.out 0).trans rfl, (blk_cell BK106.out 1).trans rfl, (blk_cell BK107.out 0).trans rfl, (blk_cell BK107.out 1).trans rfl⟩ (fun hHeld => ?_)
      clear hK K
      refine norm_ (a' := ?_) ?_ ?_
      rotate_left
      · show Act.put _ (some 33) _ = _
        simp only [Act.put, List.setIfInBounds_toArray, List.set_cons_zero, List.set_cons_succ, i64_w, i32_w]
        rfl
      refine pure_ (i := 17) (N := some 34) (v := ?_) (a' := ?_) #[yy,yy,yy,yy,yy,yy,yy,yy,yy,yy,yy,yy,yy,yy,yy,yy,yy,yy,nn,nn,nn,nn,nn,nn,nn] rfl rfl (any_of HT_.out (by kernel_rfl)) (fun _ _ _ h => h) (Or.inl ⟨by rfl, ?_⟩) ?_ ?_
      rotate_left
      · intro w'
        go_simp
        with_reducible rfl
      rotate_left
      · simp only [Act.put, List.setIfInBounds_toArray, List.set_cons_zero, List.set_cons_succ, i64_w, i32_w]
        rfl
      refine pure_ (i := 18) (N := some 35) (v := ?_) (a' := ?_) #[yy,yy,yy,yy,yy,yy,yy,yy,yy,yy,yy,yy,yy,yy,yy,yy,yy,yy,yy,nn,nn,nn,nn,nn,nn] rfl rfl (any_of HT_.out (by kernel_rfl)) (fun _ _ _ h => h) (Or.inl ⟨by rfl, ?_⟩) ?_ ?_
      rotate_left
      · intro w'
        go_simp
        with_reducible rfl
      rotate_left
      · simp only [Act.put, List.setIfInBounds_toArray, List.set_cons_zero, List.set_cons_succ, i64_w, i32_w]
        rfl
      refine pure_ (i := 19) (N := some 36) (v := undef) (a' := ?_) #[yy,yy,yy,yy,yy,yy,yy,yy,yy,yy,yy,yy,yy,yy,yy,yy,yy,yy,yy,yy,nn,nn,nn,nn,nn] rfl rfl (any_of HT_.out (by kernel_rfl)) (fun _ _ _ h => h) (Or.inr ⟨by rfl, rfl⟩) ?_ ?_
      rotate_left
      · simp only [Act.put, List.setIfInBounds_toArray, List.set_cons_zero, List.set_cons_succ, i64_w, i32_w]
        rfl
      refine pure_ (i := 20) (N := some 37) (v := undef) (a' := ?_) #[yy,yy,yy,yy,yy,yy,yy,yy,yy,yy,yy,yy,yy,yy,yy,yy,yy,yy,yy,yy,yy,nn,nn,nn,nn] rfl rfl (any_of HT_.out (by kernel_rfl)) (fun _ _ _ h => h) (Or.inr ⟨by rfl, rfl⟩) ?_ ?_
      rotate_left
      · simp only [Act.put, List.setIfInBounds_toArray, List.set_cons_zero, List.set_cons_succ, i64_w, i32_w]
        rfl
      refine pure_ (i := 21) (N := some 38) (v := undef) (a' := ?_) #[yy,yy,yy,yy,yy,yy,yy,yy,yy,yy,yy,yy,yy,yy,yy,yy,yy,yy,yy,yy,yy,yy,nn,nn,nn] rfl rfl (any_of HT_.out (by kernel_rfl)) (fun _ _ _ h => h) (Or.inr ⟨by rfl, rfl⟩) ?_ ?_
      rotate_left
      · simp only [Act.put, List.setIfInBounds_toArray, List.set_cons_zero, List.set_cons_succ, i64_w, i32_w]
        rfl
      refine pure_ (i := 22) (N := some 39) (v := undef) (a' := ?_) #[yy,yy,yy,yy,yy,yy,yy,yy,yy,yy,yy,yy,yy,yy,yy,yy,yy,yy,yy,yy,yy,yy,yy,nn,nn] rfl rfl (any_of HT_.out (by kernel_rfl)) (fun _ _ _ h => h) (Or.inr ⟨by rfl, rfl⟩) ?_ ?_
      rotate_left
      · simp only [Act.put, List.setIfInBounds_toArray, List.set_cons_zero, List.set_cons_succ, i64_w, i32_w]
        rfl
      refine pure_ (i := 23) (N := some 40) (v := undef) (a' := ?_) #[yy,yy,yy,yy,yy,yy,yy,yy,yy,yy,yy,yy,yy,yy,yy,yy,yy,yy,yy,yy,yy,yy,yy,yy,nn] rfl rfl (any_of HT_.out (by kernel_rfl)) (fun _ _ _ h => h) (Or.inr ⟨by rfl, rfl⟩) ?_ ?_
      rotate_left
      · simp only [Act.put, List.setIfInBounds_toArray, List.set_cons_zero, List.set_cons_succ, i64_w, i32_w]
        rfl
      refine pure_ (i := 24) (N := some 41) (v := ?_) (a' := ?_) #[yy,yy,yy,yy,yy,yy,yy,yy,yy,yy,yy,yy,yy,yy,yy,yy,yy,yy,yy,yy,yy,yy,yy,yy,yy] rfl rfl (any_of HT_.out (by kernel_rfl)) (fun _ _ _ h => h) (Or.inl ⟨by rfl, ?_⟩) ?_ ?_
      rotate_left
      · intro w'
        go_simp
        with_reducible rfl
      rotate_left
      · simp only [Act.put, List.setIfInBounds_toArray, List.set_cons_zero, List.set_cons_succ, i64_w, i32_w]
        rfl
      refine done_ (done_of HT_.out (by kernel_rfl)) ?_
      try go_wp2
      go_meet
      case rel => exact ⟨_, (true), (by first | rfl | (simp; done) | (simp [*]; done)), H', ⟨by first | omega | exact Nat.le_refl _⟩, ⟨by (with_reducible repeat (first | apply bkD | apply bkd | apply bkA)); exact BK106.out⟩, ⟨by (with_reducible repeat (first | apply bkD | apply bkd | apply bkA)); exact BK107.out⟩, ⟨by repeat (first | (with_reducible first | exact HB.out | apply beA | apply beD | apply bed | refine beS ?_ GE106.out | refine beS ?_ GE107.out) | exact HB.out)⟩⟩
    replace c39 := Bool.eq_false_iff.mpr c39
    subst c39
    have H1 : ((impl_ShareOk.f t102 t103).bind fun t115 => ((spec_ShareOk.f t102 t103).bind fun t116 => (laws_FnOrder.j0 k l0 false (t115 != t116) t102 t103 t104 t105))) = some r := by rw [if_neg (show ¬ (false = true) by decide)] at H; exact H
    clear H
    have H := H1
    clear H1
    replace H := Option.bind_eq_some_iff.mp H
    obtain ⟨t115, A430, H⟩ := H
    replace H : ((spec_ShareOk.f t102 t103).bind fun t116 => (laws_FnOrder.j0 k l0 false (t115 != t116) t102 t103 t104 t105)) = some r := H
    have A43 := Aside0.mk A430
    clear A430
    replace H := Option.bind_eq_some_iff.mp H
    obtain ⟨t116, A440, H⟩ := H
    replace H : (laws_FnOrder.j0 k l0 false (t115 != t116) t102 t103 t104 t105) = some r := H
    have A44 := Aside0.mk A440
    clear A440
    have H' := Aside0.mk H
    clear H
    try go_wp2
    have n0_ := aM (blk_drew BK106.out)
    have n1_ := aM (blk_drew BK107.out)
    have n2_ := aM (below_drew1 HB.out)
    clear BK106
    clear BK107
    clear HB
    have BK106 := n0_
    have BK107 := n1_
    have HB := n2_
    clear n0_ n1_ n2_
    refine start_ (n := 25) (S := fun w' => w'.cell? ⟨gb106, 0, none⟩ = some (.int .i64 t102) ∧ w'.cell? ⟨gb106, 1, none⟩ = some (.int .i64 t103) ∧ w'.cell? ⟨gb107, 0, none⟩ = some (.int .i64 t104) ∧ w'.cell? ⟨gb107, 1, none⟩ = some (.int .i64 t105)) (ds := []) #[nn,nn,nn,nn,nn,nn,nn,nn,nn,nn,nn,nn,nn,nn,nn,nn,nn,nn,nn,nn,nn,nn,nn,nn,nn] (by kernel_rfl) rfl rfl ⟨(blk_cell BK106.out 0).trans rfl, (blk_cell BK106.out 1).trans rfl, (blk_cell BK107.out 0).trans rfl, (blk_cell BK107.out 1).trans rfl⟩ (fun hHeld => ?_); refine with_tabW laws_FnOrder.tab5 laws_FnOrder.bits5 (fun HT_ HW_ => ?_)
    generalize w13.drew = w45 at BK106 BK107 HB hHeld ⊢
    refine pure_ (i := 0) (N := some 17) (v := ?_) (a' := ?_) #[yy,nn,nn,nn,nn,nn,nn,nn,nn,nn,nn,nn,nn,nn,nn,nn,nn,nn,nn,nn,nn,nn,nn,nn,nn] rfl rfl (any_of HT_.out (by kernel_rfl)) (fun _ _ _ h => h) (Or.inl ⟨by rfl, ?_⟩) ?_ ?_
    rotate_left
    · intro w'
      go_simp
      with_reducible rfl
    rotate_left
    · simp only [Act.put, List.setIfInBounds_toArray, List.set_cons_zero, List.set_cons_succ, i64_w, i32_w]
      rfl
    refine take_ (i := 1) (N := some 18) (v := ?_) (a' := ?_) #[yy,yy,nn,nn,nn,nn,nn,nn,nn,nn,nn,nn,nn,nn,nn,nn,nn,nn,nn,nn,nn,nn,nn,nn,nn] rfl rfl (take_ofW HT_.out HW_.out (by kernel_rfl)) (fun _ _ _ h => h) (Or.inl ⟨by rfl, ?_⟩) hHeld ?_ ?_
    rotate_left
    · rintro w' ⟨s0, s1, s2, s3⟩
      go_simp
      with_reducible rfl
    rotate_left
    · simp only [Act.put, List.setIfInBounds_toArray, List.set_cons_zero, List.set_cons_succ, i64_w, i32_w]
      rfl
    refine take_ (i := 2) (N := some 19) (v := ?_) (a' := ?_) #[yy,yy,yy,nn,nn,nn,nn,nn,nn,nn,nn,nn,nn,nn,nn,nn,nn,nn,nn,nn,nn,nn,nn,nn,nn] rfl rfl (take_ofW HT_.out HW_.out (by kernel_rfl)) (fun _ _ _ h => h) (Or.inl ⟨by rfl, ?_⟩) hHeld ?_ ?_
    rotate_left
    · rintro w' ⟨s0, s1, s2, s3⟩
      go_simp
      with_reducible rfl
    rotate_left
    · simp only [Act.put, List.setIfInBounds_toArray, List.set_cons_zero, List.set_cons_succ, i64_w, i32_w]
      rfl
    refine one_ (i := 3) (N := some 20) #[yy,yy,yy,yy,nn,nn,nn,nn,nn,nn,nn,nn,nn,nn,nn,nn,nn,nn,nn,nn,nn,nn,nn,nn,nn] rfl rfl (one_of HT_.out (by kernel_rfl)) (by decide) (fun K hK => ?_)
    refine goes_ Try.func47 (by kernel_rfl) rfl #[.agg #[.int .i64 t102, .int .i64 t103], .agg #[.int .i64 t104, .int .i64 t105]] (by rfl) rfl rfl (by (try simp only [List.map_toArray, List.map_cons, List.map_nil]); first | done | rfl | (simp only [List.length_drop, List.length_take]; rfl)) ?_
    with_reducible refine (spec_ShareLess.calls t102 t103 t104 t105 t109 _ A14.out).mono ?_
    rintro e w46 ⟨rfl, hb⟩
    refine ⟨_, rfl, ?_⟩
    have n0_ := aM (blk_below (g := gb106) (o := .cells #[.int .i64 t102, .int .i64 t103] 50 (0, 0)) (by (with_reducible repeat (first | apply bkD | apply bkd | apply bkA)); exact BK106.out) hb)
    have n1_ := aM (blk_below (g := gb107) (o := .cells #[.int .i64 t104, .int .i64 t105] 50 (0, 0)) (by (with_reducible repeat (first | apply bkD | apply bkd | apply bkA)); exact BK107.out) hb)
    have n2_ := aM (below_step (by repeat (first | (with_reducible first | exact HB.out | apply beA | apply beD | apply bed | refine beS ?_ GE106.out | refine beS ?_ GE107.out) | exact HB.out)) hb)
    clear BK106
    clear BK107
    clear HB
    have BK106 := n0_
    have BK107 := n1_
    have HB := n2_
    clear n0_ n1_ n2_
    (try clear hb)
    (try clear hb2)
    (try clear hk)
    (try clear hi)
    refine hK.out _ _ ⟨(blk_cell BK106.out 0).trans rfl, (blk_cell BK106.out 1).trans rfl, (blk_cell BK107.out 0).trans rfl, (blk_cell BK107.out 1).trans rfl⟩ (fun hHeld => ?_)
    clear hK K
    refine norm_ (a' := ?_) ?_ ?_
    rotate_left
    · show Act.put _ (some 20) _ = _
      simp only [Act.put, List.setIfInBounds_toArray, List.set_cons_zero, List.set_cons_succ, i64_w, i32_w]
      rfl
    refine pure_ (i := 4) (N := some 21) (v := ?_) (a' := ?_) #[yy,yy,yy,yy,yy,nn,nn,nn,nn,nn,nn,nn,nn,nn,nn,nn,nn,nn,nn,nn,nn,nn,nn,nn,nn] rfl rfl (any_of HT_.out (by kernel_rfl)) (fun _ _ _ h => h) (Or.inl ⟨by rfl, ?_⟩) ?_ ?_
    rotate_left
    · intro w'
      go_simp
      with_reducible rfl
    rotate_left
    · simp only [Act.put, List.setIfInBounds_toArray, List.set_cons_zero, List.set_cons_succ, i64_w, i32_w]
      rfl
    refine pure_ (i := 5) (N := some 22) (v := ?_) (a' := ?_) #[yy,yy,yy,yy,yy,yy,nn,nn,nn,nn,nn,nn,nn,nn,nn,nn,nn,nn,nn,nn,nn,nn,nn,nn,nn] rfl rfl (any_of HT_.out (by kernel_rfl)) (fun _ _ _ h => h) (Or.inl ⟨by rfl, ?_⟩) ?_ ?_
    rotate_left
    · intro w'
      go_simp
      with_reducible rfl
    rotate_left
    · simp only [Act.put, List.setIfInBounds_toArray, List.set_cons_zero, List.set_cons_succ, i64_w, i32_w]
      rfl
    refine pure_ (i := 6) (N := some 23) (v := ?_) (a' := ?_) #[yy,yy,yy,yy,yy,yy,yy,nn,nn,nn,nn,nn,nn,nn,nn,nn,nn,nn,nn,nn,nn,nn,nn,nn,nn] rfl rfl (any_of HT_.out (by kernel_rfl)) (fun _ _ _ h => h) (Or.inl ⟨by rfl, ?_⟩) ?_ ?_
    rotate_left
    · intro w'
      go_simp
      with_reducible rfl
    rotate_left
    · simp only [Act.put, List.setIfInBounds_toArray, List.set_cons_zero, List.set_cons_succ, i64_w, i32_w]
      rfl
    refine pure_ (i := 7) (N := some 24) (v := ?_) (a' := ?_) #[yy,yy,yy,yy,yy,yy,yy,yy,nn,nn,nn,nn,nn,nn,nn,nn,nn,nn,nn,nn,nn,nn,nn,nn,nn] rfl rfl (any_of HT_.out (by kernel_rfl)) (fun _ _ _ h => h) (Or.inl ⟨by rfl, ?_⟩) ?_ ?_
    rotate_left
    · intro w'
      go_simp
      with_reducible rfl
    rotate_left
    · simp only [Act.put, List.setIfInBounds_toArray, List.set_cons_zero, List.set_cons_succ, i64_w, i32_w]
      rfl
    refine pure_ (i := 8) (N := some 25) (v := undef) (a' := ?_) #[yy,yy,yy,yy,yy,yy,yy,yy,yy,nn,nn,nn,nn,nn,nn,nn,nn,nn,nn,nn,nn,nn,nn,nn,nn] rfl rfl (any_of HT_.out (by kernel_rfl)) (fun _ _ _ h => h) (Or.inr ⟨by rfl, rfl⟩) ?_ ?_
    rotate_left
    · simp only [Act.put, List.setIfInBounds_toArray, List.set_cons_zero, List.set_cons_succ, i64_w, i32_w]
      rfl
    refine pure_ (i := 9) (N := some 26) (v := undef) (a' := ?_) #[yy,yy,yy,yy,yy,yy,yy,yy,yy,yy,nn,nn,nn,nn,nn,nn,nn,nn,nn,nn,nn,nn,nn,nn,nn] rfl rfl (any_of HT_.out (by kernel_rfl)) (fun _ _ _ h => h) (Or.inr ⟨by rfl, rfl⟩) ?_ ?_
    rotate_left
    · simp only [Act.put, List.setIfInBounds_toArray, List.set_cons_zero, List.set_cons_succ, i64_w, i32_w]
      rfl
    refine pure_ (i := 10) (N := some 27) (v := undef) (a' := ?_) #[yy,yy,yy,yy,yy,yy,yy,yy,yy,yy,yy,nn,nn,nn,nn,nn,nn,nn,nn,nn,nn,nn,nn,nn,nn] rfl rfl (any_of HT_.out (by kernel_rfl)) (fun _ _ _ h => h) (Or.inr ⟨by rfl, rfl⟩) ?_ ?_
    rotate_left
    · simp only [Act.put, List.setIfInBounds_toArray, List.set_cons_zero, List.set_cons_succ, i64_w, i32_w]
      rfl
    refine pure_ (i := 11) (N := some 28) (v := ?_) (a' := ?_) #[yy,yy,yy,yy,yy,yy,yy,yy,yy,yy,yy,yy,nn,nn,nn,nn,nn,nn,nn,nn,nn,nn,nn,nn,nn] rfl rfl (any_of HT_.out (by kernel_rfl)) (fun _ _ _ h => h) (Or.inl ⟨by rfl, ?_⟩) ?_ ?_
    rotate_left
    · intro w'
      go_simp
      with_reducible rfl
    rotate_left
    · simp only [Act.put, List.setIfInBounds_toArray, List.set_cons_zero, List.set_cons_succ, i64_w, i32_w]
      rfl
    refine pure_ (i := 12) (N := some 29) (v := ?_) (a' := ?_) #[yy,yy,yy,yy,yy,yy,yy,yy,yy,yy,yy,yy,yy,nn,nn,nn,nn,nn,nn,nn,nn,nn,nn,nn,nn] rfl rfl (any_of HT_.out (by kernel_rfl)) (fun _ _ _ h => h) (Or.inl ⟨by rfl, ?_⟩) ?_ ?_
    rotate_left
    · intro w'
      go_simp
      with_reducible rfl
    rotate_left
    · simp only [Act.put, List.setIfInBounds_toArray, List.set_cons_zero, List.set_cons_succ, i64_w, i32_w]
      rfl
    refine pure_ (i := 13) (N := some 30) (v := ?_) (a' := ?_) #[yy,yy,yy,yy,yy,yy,yy,yy,yy,yy,yy,yy,yy,yy,nn,nn,nn,nn,nn,nn,nn,nn,nn,nn,nn] rfl rfl (any_of HT_.out (by kernel_rfl)) (fun _ _ _ h => h) (Or.inl ⟨by rfl, ?_⟩) ?_ ?_
    rotate_left
    · intro w'
      go_simp
      with_reducible rfl
    rotate_left
    · simp only [Act.put, List.setIfInBounds_toArray, List.set_cons_zero, List.set_cons_succ, i64_w, i32_w]
      rfl
    refine take_ (i := 14) (N := some 31) (v := ?_) (a' := ?_) #[yy,yy,yy,yy,yy,yy,yy,yy,yy,yy,yy,yy,yy,yy,yy,nn,nn,nn,nn,nn,nn,nn,nn,nn,nn] rfl rfl (take_ofW HT_.out HW_.out (by kernel_rfl)) (fun _ _ _ h => h) (Or.inl ⟨by rfl, ?_⟩) hHeld ?_ ?_
    rotate_left
    · rintro w' ⟨s0, s1, s2, s3⟩
      go_simp
      with_reducible rfl
    rotate_left
    · simp only [Act.put, List.setIfInBounds_toArray, List.set_cons_zero, List.set_cons_succ, i64_w, i32_w]
      rfl
    refine take_ (i := 15) (N := some 32) (v := ?_) (a' := ?_) #[yy,yy,yy,yy,yy,yy,yy,yy,yy,yy,yy,yy,yy,yy,yy,yy,nn,nn,nn,nn,nn,nn,nn,nn,nn] rfl rfl (take_ofW HT_.out HW_.out (by kernel_rfl)) (fun _ _ _ h => h) (Or.inl ⟨by rfl, ?_⟩) hHeld ?_ ?_
    rotate_left
    · rintro w' ⟨s0, s1, s2, s3⟩
      go_simp
      with_reducible rfl
    rotate_left
    · simp only [Act.put, List.setIfInBounds_toArray, List.set_cons_zero, List.set_cons_succ, i64_w, i32_w]
      rfl
    refine one_ (i := 16) (N := some 33) #[yy,yy,yy,yy,yy,yy,yy,yy,yy,yy,yy,yy,yy,yy,yy,yy,yy,nn,nn,nn,nn,nn,nn,nn,nn] rfl rfl (one_of HT_.out (by kernel_rfl)) (by decide) (fun K hK => ?_)
    refine goes_ Try.func46 (by kernel_rfl) rfl #[.agg #[.int .i64 t102, .int .i64 t103], .agg #[.int .i64 t102, .int .i64 t103]] (by rfl) rfl rfl (by (try simp only [List.map_toArray, List.map_cons, List.map_nil]); first | done | rfl | (simp only [List.length_drop, List.length_take]; rfl)) ?_
    with_reducible refine (impl_ShareLess.calls t102 t103 t102 t103 false _ A38.out).mono ?_
    rintro e w47 ⟨rfl, hb⟩
    refine ⟨_, rfl, ?_⟩
    have n0_ := aM (blk_below (g := gb106) (o := .cells #[.int .i64 t102, .int .i64 t103] 50 (0, 0)) (by (with_reducible repeat (first | apply bkD | apply bkd | apply bkA)); exact BK106.out) hb)
    have n1_ := aM (blk_below (g := gb107) (o := .cells #[.int .i64 t104, .int .i64 t105] 50 (0, 0)) (by (with_reducible repeat (first | apply bkD | apply bkd | apply bkA)); exact BK107.out) hb)
    have n2_ := aM (below_step (by repeat (first | (with_reducible first | exact HB.out | apply beA | apply beD | apply bed | refine beS ?_ GE106.out | refine beS ?_ GE107.out) | exact HB.out)) hb)
    clear BK106
    clear BK107
    clear HB
    have BK106 := n0_
    have BK107 := n1_
    have HB := n2_
    clear n0_ n1_ n2_
    (try clear hb)
    (try clear hb2)
    (try clear hk)
    (try clear hi)
    refine hK.out _ _ ⟨(blk_cell BK106.out 0).trans rfl, (blk_cell BK106.out 1).trans rfl, (blk_cell BK107.out 0).trans rfl, (blk_cell BK107.out 1).trans rfl⟩ (fun hHeld => ?_)
    clear hK K
    refine norm_ (a' := ?_) ?_ ?_
    rotate_left
    · show Act.put _ (some 33) _ = _
      simp only [Act.put, List.setIfInBounds_toArray, List.set_cons_zero, List.set_cons_succ, i64_w, i32_w]
      rfl
    refine pure_ (i := 17) (N := some 34) (v := ?_) (a' := ?_) #[yy,yy,yy,yy,yy,yy,yy,yy,yy,yy,yy,yy,yy,yy,yy,yy,yy,yy,nn,nn,nn,nn,nn,nn,nn] rfl rfl (any_of HT_.out (by kernel_rfl)) (fun _ _ _ h => h) (Or.inl ⟨by rfl, ?_⟩) ?_ ?_
    rotate_left
    · intro w'
      go_simp
      with_reducible rfl
    rotate_left
    · simp only [Act.put, List.setIfInBounds_toArray, List.set_cons_zero, List.set_cons_succ, i64_w, i32_w]
      rfl
    refine pure_ (i := 18) (N := some 35) (v := ?_) (a' := ?_) #[yy,yy,yy,yy,yy,yy,yy,yy,yy,yy,yy,yy,yy,yy,yy,yy,yy,yy,yy,nn,nn,nn,nn,nn,nn] rfl rfl (any_of HT_.out (by kernel_rfl)) (fun _ _ _ h => h) (Or.inl ⟨by rfl, ?_⟩) ?_ ?_
    rotate_left
    · intro w'
      go_simp
      with_reducible rfl
    rotate_left
    · simp only [Act.put, List.setIfInBounds_toArray, List.set_cons_zero, List.set_cons_succ, i64_w, i32_w]
      rfl
    refine take_ (i := 19) (N := some 36) (v := ?_) (a' := ?_) #[yy,yy,yy,yy,yy,yy,yy,yy,yy,yy,yy,yy,yy,yy,yy,yy,yy,yy,yy,yy,nn,nn,nn,nn,nn] rfl rfl (take_ofW HT_.out HW_.out (by kernel_rfl)) (fun _ _ _ h => h) (Or.inl ⟨by rfl, ?_⟩) hHeld ?_ ?_
    rotate_left
    · rintro w' ⟨s0, s1, s2, s3⟩
      go_simp
      with_reducible rfl
    rotate_left
    · simp only [Act.put, List.setIfInBounds_toArray, List.set_cons_zero, List.set_cons_succ, i64_w, i32_w]
      rfl
    refine take_ (i := 21) (N := some 38) (v := ?_) (a' := ?_) #[yy,yy,yy,yy,yy,yy,yy,yy,yy,yy,yy,yy,yy,yy,yy,yy,yy,yy,yy,yy,nn,yy,nn,nn,nn] rfl rfl (take_ofW HT_.out HW_.out (by kernel_rfl)) (fun _ _ _ h => h) (Or.inl ⟨by rfl, ?_⟩) hHeld ?_ ?_
    rotate_left
    · rintro w' ⟨s0, s1, s2, s3⟩
      go_simp
      with_reducible rfl
    rotate_left
    · simp only [Act.put, List.setIfInBounds_toArray, List.set_cons_zero, List.set_cons_succ, i64_w, i32_w]
      rfl
    refine one_ (i := 20) (N := some 37) #[yy,yy,yy,yy,yy,yy,yy,yy,yy,yy,yy,yy,yy,yy,yy,yy,yy,yy,yy,yy,yy,yy,nn,nn,nn] rfl rfl (one_of HT_.out (by kernel_rfl)) (by decide) (fun K hK => ?_)
    refine goes_ Try.func48 (by kernel_rfl) rfl #[.agg #[.int .i64 t102, .int .i64 t103]] (by rfl) rfl rfl (by (try simp only [List.map_toArray, List.map_cons, List.map_nil]); first | done | rfl | (simp only [List.length_drop, List.length_take]; rfl)) ?_
    with_reducible refine (impl_ShareOk.calls t102 t103 t115 _ A43.out).mono ?_
    rintro e w48 ⟨rfl, hb⟩
    refine ⟨_, rfl, ?_⟩
    have n0_ := aM (blk_below (g := gb106) (o := .cells #[.int .i64 t102, .int .i64 t103] 50 (0, 0)) (by (with_reducible repeat (first | apply bkD | apply bkd | apply bkA)); exact BK106.out) hb)
    have n1_ := aM (blk_below (g := gb107) (o := .cells #[.int .i64 t104, .int .i64 t105] 50 (0, 0)) (by (with_reducible repeat (first | apply bkD | apply bkd | apply bkA)); exact BK107.out) hb)
    have n2_ := aM (below_step (by repeat (first | (with_reducible first | exact HB.out | apply beA | apply beD | apply bed | refine beS ?_ GE106.out | refine beS ?_ GE107.out) | exact HB.out)) hb)
    clear BK106
    clear BK107
    clear HB
    have BK106 := n0_
    have BK107 := n1_
    have HB := n2_
    clear n0_ n1_ n2_
    (try clear hb)
    (try clear hb2)
    (try clear hk)
    (try clear hi)
    refine hK.out _ _ ⟨(blk_cell BK106.out 0).trans rfl, (blk_cell BK106.out 1).trans rfl, (blk_cell BK107.out 0).trans rfl, (blk_cell BK107.out 1).trans rfl⟩ (fun hHeld => ?_)
    clear hK K
    refine norm_ (a' := ?_) ?_ ?_
    rotate_left
    · show Act.put _ (some 37) _ = _
      simp only [Act.put, List.setIfInBounds_toArray, List.set_cons_zero, List.set_cons_succ, i64_w, i32_w]
      rfl
    refine one_ (i := 22) (N := some 39) #[yy,yy,yy,yy,yy,yy,yy,yy,yy,yy,yy,yy,yy,yy,yy,yy,yy,yy,yy,yy,yy,yy,yy,nn,nn] rfl rfl (one_of HT_.out (by kernel_rfl)) (by decide) (fun K hK => ?_)
    refine goes_ Try.func49 (by kernel_rfl) rfl #[.agg #[.int .i64 t102, .int .i64 t103]] (by rfl) rfl rfl (by (try simp only [List.map_toArray, List.map_cons, List.map_nil]); first | done | rfl | (simp only [List.length_drop, List.length_take]; rfl)) ?_
    with_reducible refine (spec_ShareOk.calls t102 t103 t116 _ A44.out).mono ?_
    rintro e w49 ⟨rfl, hb⟩
    refine ⟨_, rfl, ?_⟩
    have n0_ := aM (blk_below (g := gb106) (o := .cells #[.int .i64 t102, .int .i64 t103] 50 (0, 0)) (by (with_reducible repeat (first | apply bkD | apply bkd | apply bkA)); exact BK106.out) hb)
    have n1_ := aM (blk_below (g := gb107) (o := .cells #[.int .i64 t104, .int .i64 t105] 50 (0, 0)) (by (with_reducible repeat (first | apply bkD | apply bkd | apply bkA)); exact BK107.out) hb)
    have n2_ := aM (below_step (by repeat (first | (with_reducible first | exact HB.out | apply beA | apply beD | apply bed | refine beS ?_ GE106.out | refine beS ?_ GE107.out) | exact HB.out)) hb)
    clear BK106
    clear BK107
    clear HB
    have BK106 := n0_
    have BK107 := n1_
    have HB := n2_
    clear n0_ n1_ n2_
    (try clear hb)
    (try clear hb2)
    (try clear hk)
    (try clear hi)
    refine hK.out _ _ ⟨(blk_cell BK106.out 0).trans rfl, (blk_cell BK106.out 1).trans rfl, (blk_cell BK107.out 0).trans rfl, (blk_cell BK107.out 1).trans rfl⟩ (fun hHeld => ?_)
    clear hK K
    refine norm_ (a' := ?_) ?_ ?_
    rotate_left
    · show Act.put _ (some 39) _ = _
      simp only [Act.put, List.setIfInBounds_toArray, List.set_cons_zero, List.set_cons_succ, i64_w, i32_w]
      rfl
    refine pure_ (i := 23) (N := some 40) (v := ?_) (a' := ?_) #[yy,yy,yy,yy,yy,yy,yy,yy,yy,yy,yy,yy,yy,yy,yy,yy,yy,yy,yy,yy,yy,yy,yy,yy,nn] rfl rfl (any_of HT_.out (by kernel_rfl)) (fun _ _ _ h => h) (Or.inl ⟨by rfl, ?_⟩) ?_ ?_
    rotate_left
    · intro w'
      go_simp
      with_reducible rfl
    rotate_left
    · simp only [Act.put, List.setIfInBounds_toArray, List.set_cons_zero, List.set_cons_succ, i64_w, i32_w]
      rfl
    refine pure_ (i := 24) (N := some 41) (v := ?_) (a' := ?_) #[yy,yy,yy,yy,yy,yy,yy,yy,yy,yy,yy,yy,yy,yy,yy,yy,yy,yy,yy,yy,yy,yy,yy,yy,yy] rfl rfl (any_of HT_.out (by kernel_rfl)) (fun _ _ _ h => h) (Or.inl ⟨by rfl, ?_⟩) ?_ ?_
    rotate_left
    · intro w'
      go_simp
      with_reducible rfl
    rotate_left
    · simp only [Act.put, List.setIfInBounds_toArray, List.set_cons_zero, List.set_cons_succ, i64_w, i32_w]
      rfl
    refine done_ (done_of HT_.out (by kernel_rfl)) ?_
    try go_wp2
    go_meet
    case rel => exact ⟨_, ((t115 != t116)), (by first | rfl | (simp; done) | (simp [*]; done)), H', ⟨by first | omega | exact Nat.le_refl _⟩, ⟨by (with_reducible repeat (first | apply bkD | apply bkd | apply bkA)); exact BK106.out⟩, ⟨by (with_reducible repeat (first | apply bkD | apply bkd | apply bkA)); exact BK107.out⟩, ⟨by repeat (first | (with_reducible first | exact HB.out | apply beA | apply beD | apply bed | refine beS ?_ GE106.out | refine beS ?_ GE107.out) | exact HB.out)⟩⟩
  case rest =>
    clear HC6
    try clear c1
    try clear p2
    try clear c3
    try clear c4
    try clear c18
    try clear c39
    try clear c46
    try clear c47
    try clear c48
    try clear c49
    obtain ⟨kq, x41_5, rfl, HA, HJ5, BK106, BK107, HB⟩ := hcut
    cases kq with
    | zero => exact absurd HA.out (by simp [laws_FnOrder.j0])
    | succ kj5 =>
      have H := HA.out
      clear HA
      simp only [laws_FnOrder.j0] at H
      by_cases c50 : x41_5 = true
      · subst c50
        have H1 : (some false) = some r := by rw [if_pos rfl] at H; exact H
        clear H
        have H := H1
        clear H1
        obtain rfl := Option.some.inj H
        go_wp2
        go_ret
        exact ⟨by first | rfl | (simp <;> rfl) | (simp [*] <;> rfl), by repeat (first | (with_reducible first | exact HB.out | apply beA | apply beD | apply bed | refine beS ?_ GE106.out | refine beS ?_ GE107.out) | exact HB.out)⟩
      replace c50 := Bool.eq_false_iff.mpr c50
      subst c50
      have H1 : (if t108 = true then ((laws_at.f l0 1).bind fun t117 => ((impl_ShareOk.f t102 t103).bind fun t119 => (if t119 = true then ((impl_ShareOk.f t104 t105).bind fun t120 => (if t120 = true then ((impl_Fits.f kj5 (([(⟨t104, t105⟩ : S50), (⟨1, wrap64 (2 + (Int.tmod t117 5))⟩ : S50)] : List (S50)))).bind fun t124 => (if t124 = true then ((impl_Fits.f kj5 (([(⟨t102, t103⟩ : S50), (⟨1, wrap64 (2 + (Int.tmod t117 5))⟩ : S50)] : List (S50)))).bind fun t128 => (some t128)) else (some true))) else (some false))) else (some false)))) else (some true)) = some r := by rw [if_neg (show ¬ (false = true) by decide)] at H; exact H
      clear H
      have H := H1
      clear H1
      by_cases c51 : t108 = true
      · subst c51
        have H1 : ((laws_at.f l0 1).bind fun t117 => ((impl_ShareOk.f t102 t103).bind fun t119 => (if t119 = true then ((impl_ShareOk.f t104 t105).bind fun t120 => (if t120 = true then ((impl_Fits.f kj5 (([(⟨t104, t105⟩ : S50), (⟨1, wrap64 (2 + (Int.tmod t117 5))⟩ : S50)] : List (S50)))).bind fun t124 => (if t124 = true then ((impl_Fits.f kj5 (([(⟨t102, t103⟩ : S50), (⟨1, wrap64 (2 + (Int.tmod t117 5))⟩ : S50)] : List (S50)))).bind fun t128 => (some t128)) else (some true))) else (some false))) else (some false)))) = some r := by rw [if_pos rfl] at H; exact H
        clear H
        have H := H1
        clear H1
        replace H := Option.bind_eq_some_iff.mp H
        obtain ⟨t117, A520, H⟩ := H
        replace H : ((impl_ShareOk.f t102 t103).bind fun t119 => (if t119 = true then ((impl_ShareOk.f t104 t105).bind fun t120 => (if t120 = true then ((impl_Fits.f kj5 (([(⟨t104, t105⟩ : S50), (⟨1, wrap64 (2 + (Int.tmod t117 5))⟩ : S50)] : List (S50)))).bind fun t124 => (if t124 = true then ((impl_Fits.f kj5 (([(⟨t102, t103⟩ : S50), (⟨1, wrap64 (2 + (Int.tmod t117 5))⟩ : S50)] : List (S50)))).bind fun t128 => (some t128)) else (some true))) else (some false))) else (some false))) = some r := H
        have A52 := Aside0.mk A520
        clear A520
        replace H := Option.bind_eq_some_iff.mp H
        obtain ⟨t119, A530, H⟩ := H
        replace H : (if t119 = true then ((impl_ShareOk.f t104 t105).bind fun t120 => (if t120 = true then ((impl_Fits.f kj5 (([(⟨t104, t105⟩ : S50), (⟨1, wrap64 (2 + (Int.tmod t117 5))⟩ : S50)] : List (S50)))).bind fun t124 => (if t124 = true then ((impl_Fits.f kj5 (([(⟨t102, t103⟩ : S50), (⟨1, wrap64 (2 + (Int.tmod t117 5))⟩ : S50)] : List (S50)))).bind fun t128 => (some t128)) else (some true))) else (some false))) else (some false)) = some r := H
        have A53 := Aside0.mk A530
        clear A530
        by_cases c54 : t119 = true
        · subst c54
          have H1 : ((impl_ShareOk.f t104 t105).bind fun t120 => (if t120 = true then ((impl_Fits.f kj5 (([(⟨t104, t105⟩ : S50), (⟨1, wrap64 (2 + (Int.tmod t117 5))⟩ : S50)] : List (S50)))).bind fun t124 => (if t124 = true then ((impl_Fits.f kj5 (([(⟨t102, t103⟩ : S50), (⟨1, wrap64 (2 + (Int.tmod t117 5))⟩ : S50)] : List (S50)))).bind fun t128 => (some t128)) else (some true))) else (some false))) = some r := by rw [if_pos rfl] at H; exact H
          clear H
          have H := H1
          clear H1
          replace H := Option.bind_eq_some_iff.mp H
          obtain ⟨t120, A550, H⟩ := H
          replace H : (if t120 = true then ((impl_Fits.f kj5 (([(⟨t104, t105⟩ : S50), (⟨1, wrap64 (2 + (Int.tmod t117 5))⟩ : S50)] : List (S50)))).bind fun t124 => (if t124 = true then ((impl_Fits.f kj5 (([(⟨t102, t103⟩ : S50), (⟨1, wrap64 (2 + (Int.tmod t117 5))⟩ : S50)] : List (S50)))).bind fun t128 => (some t128)) else (some true))) else (some false)) = some r := H
          have A55 := Aside0.mk A550
          clear A550
          by_cases c56 : t120 = true
          · subst c56
            have H1 : ((impl_Fits.f kj5 (([(⟨t104, t105⟩ : S50), (⟨1, wrap64 (2 + (Int.tmod t117 5))⟩ : S50)] : List (S50)))).bind fun t124 => (if t124 = true then ((impl_Fits.f kj5 (([(⟨t102, t103⟩ : S50), (⟨1, wrap64 (2 + (Int.tmod t117 5))⟩ : S50)] : List (S50)))).bind fun t128 => (some t128)) else (some true))) = some r := by rw [if_pos rfl] at H; exact H
            clear H
            have H := H1
            clear H1
            obtain ⟨y121, hy121⟩ : ∃ y_ : List (S50), y_ = (([(⟨t104, t105⟩ : S50), (⟨1, wrap64 (2 + (Int.tmod t117 5))⟩ : S50)] : List (S50))) := ⟨_, rfl⟩
            replace H : ((impl_Fits.f kj5 y121).bind fun t124 => (if t124 = true then ((impl_Fits.f kj5 (([(⟨t102, t103⟩ : S50), (⟨1, wrap64 (2 + (Int.tmod t117 5))⟩ : S50)] : List (S50)))).bind fun t128 => (some t128)) else (some true))) = some r := by first | (rw [hy121]; with_reducible exact H) | (have H2_ := (Option.bind_some _ _).symm.trans H; rw [hy121]; with_reducible exact H2_) | (have H2_ := (Option.bind_some _ _).symm.trans H; with_reducible exact H2_) | with_reducible exact H | (rw [hy121]; exact H) | exact H
            have Ny121 := Aside0.mk hy121
            clear hy121
            replace H := Option.bind_eq_some_iff.mp H
            obtain ⟨t124, A570, H⟩ := H
            replace H : (if t124 = true then ((impl_Fits.f kj5 (([(⟨t102, t103⟩ : S50), (⟨1, wrap64 (2 + (Int.tmod t117 5))⟩ : S50)] : List (S50)))).bind fun t128 => (some t128)) else (some true)) = some r := H
            have A57 := Aside0.mk A570
            clear A570
            by_cases c58 : t124 = true
            · subst c58
              have H1 : ((impl_Fits.f kj5 (([(⟨t102, t103⟩ : S50), (⟨1, wrap64 (2 + (Int.tmod t117 5))⟩ : S50)] : List (S50)))).bind fun t128 => (some t128)) = some r := by rw [if_pos rfl] at H; exact H
              clear H
              have H := H1
              clear H1
              obtain ⟨y125, hy125⟩ : ∃ y_ : List (S50), y_ = (([(⟨t102, t103⟩ : S50), (⟨1, wrap64 (2 + (Int.tmod t117 5))⟩ : S50)] : List (S50))) := ⟨_, rfl⟩
              replace H : ((impl_Fits.f kj5 y125).bind fun t128 => (some t128)) = some r := by first | (rw [hy125]; with_reducible exact H) | (have H2_ := (Option.bind_some _ _).symm.trans H; rw [hy125]; with_reducible exact H2_) | (have H2_ := (Option.bind_some _ _).symm.trans H; with_reducible exact H2_) | with_reducible exact H | (rw [hy125]; exact H) | exact H
              have Ny125 := Aside0.mk hy125
              clear hy125
              replace H := Option.bind_eq_some_iff.mp H
              obtain ⟨t128, A590, H⟩ := H
              replace H : (some t128) = some r := H
              have A59 := Aside0.mk A590
              clear A590
              obtain rfl := Option.some.inj H
              go_wp2_with (first | ((with_reducible refine gate_callee (f := 50) rfl ?_); refine goesL_ (some 45) rfl rfl Try.func50 (by kernel_rfl) rfl #[.slice A0 l0.length c0, .int .i64 1] rfl (by (try simp only [List.map_toArray, List.map_cons, List.map_nil]); first | done | rfl | (simp only [List.length_drop, List.length_take]; rfl)) ?_; (with_reducible refine (laws_at.calls _ _ l0 1 t117 _ ?side1 ?side2 A52.out).mono ?_); (case side1 => repeat (first | exact (Kd.C_below HR0.out HB.out) | (with_reducible refine Kd.C_alloc ?_ _) | (with_reducible refine Kd.C_drewN ?_ _) | (with_reducible refine Kd.C_drew ?_))); (case side2 => exact HC0.out); rintro e w' ⟨rfl, ⟨nd, rfl⟩⟩; refine ⟨_, rfl, ?_⟩; (try (rw [drewN_self wc]; generalize hq_ : World.drewN wc _ = wc; have n0_ : Aside0 (wc.heap[gb106]? = some (.cells #[.int .i64 t102, .int .i64 t103] 50 (0, 0))) := ⟨by rw [← hq_]; exact (by (with_reducible repeat (first | apply bkD | apply bkd | apply bkA)); exact BK106.out)⟩; have n1_ : Aside0 (wc.heap[gb107]? = some (.cells #[.int .i64 t104, .int .i64 t105] 50 (0, 0))) := ⟨by rw [← hq_]; exact (by (with_reducible repeat (first | apply bkD | apply bkd | apply bkA)); exact BK107.out)⟩; have n2_ : Aside0 (Below w.heap.size w wc) := ⟨by rw [← hq_]; exact (by repeat (first | (with_reducible first | exact HB.out | apply beA | apply beD | apply bed | refine beS ?_ GE106.out | refine beS ?_ GE107.out) | exact HB.out))⟩; clear BK106 BK107 HB hq_; have BK106 := n0_; have BK107 := n1_; have HB := n2_; clear n0_ n1_ n2_))) | ((with_reducible refine gate_dst (N := 6) rfl ?_); (try (refine gate_guard (by rfl) ?_; dsimp only)); refine box_event ?hg (N := 6) ?hd (cs := #[.int .i64 0, .int .i64 0]) (t := 50) ?hr ?_; (case hd => rfl); (case hg => rfl); (case hr => first | (go_simp; done) | (go_simp; rfl)); intro gb118 hg w60 hbox hb; have n0_ := aM (blk_below (g := gb106) (o := .cells #[.int .i64 t102, .int .i64 t103] 50 (0, 0)) (by (with_reducible repeat (first | apply bkD | apply bkd | apply bkA)); exact BK106.out) hb); have n1_ := aM (blk_below (g := gb107) (o := .cells #[.int .i64 t104, .int .i64 t105] 50 (0, 0)) (by (with_reducible repeat (first | apply bkD | apply bkd | apply bkA)); exact BK107.out) hb); have n2_ := aM (below_step (by repeat (first | (with_reducible first | exact HB.out | apply beA | apply beD | apply bed | refine beS ?_ GE106.out | refine beS ?_ GE107.out) | exact HB.out)) hb); have n3_ := aM (hbox); have n4_ := aM ((by rw [hg]; exact (below_size (by repeat (first | (with_reducible first | exact HB.out | apply beA | apply beD | apply bed | refine beS ?_ GE106.out | refine beS ?_ GE107.out) | exact HB.out))) : w.heap.size ≤ gb118)); have n5_ := n4_; have n6_ := aM ((by rw [hg]; exact Nat.ne_of_lt (blk_lt (g := gb106) (o := .cells #[.int .i64 t102, .int .i64 t103] 50 (0, 0)) (by (with_reducible repeat (first | apply bkD | apply bkd | apply bkA)); exact BK106.out)) : gb106 ≠ gb118)); have n7_ := aM (n6_.out.symm); have n8_ := aM ((by rw [hg]; exact Nat.ne_of_lt (blk_lt (g := gb107) (o := .cells #[.int .i64 t104, .int .i64 t105] 50 (0, 0)) (by (with_reducible repeat (first | apply bkD | apply bkd | apply bkA)); exact BK107.out)) : gb107 ≠ gb118)); have n9_ := aM (n8_.out.symm); clear BK106; clear BK107; clear HB; have BK106 := n0_; have BK107 := n1_; have HB := n2_; have BK118 := n3_; have GW118 := n4_; have GE118 := n5_; have NB106_118 := n6_; have NB118_106 := n7_; have NB107_118 := n8_; have NB118_107 := n9_; clear n0_ n1_ n2_ n3_ n4_ n5_ n6_ n7_ n8_ n9_; clear hb hbox hg; have hnb61 := NB118_106.out; have hnc61 := NB106_118.out; have hnb62 := NB118_107.out; have hnc62 := NB107_118.out; obtain ⟨hcz63_0, hcz63_1⟩ := cz2 BK118.out; have hfz63_0 := blk_frozen BK118.out; have hnb64 := NB106_107.out; have hnc64 := NB107_106.out; obtain ⟨hcz65_0, hcz65_1⟩ := cz2 BK106.out; have hfz65_0 := blk_frozen BK106.out) | ((with_reducible refine gate_callee (f := 48) rfl ?_); refine goesL_ (some 50) rfl rfl Try.func48 (by kernel_rfl) rfl #[.agg #[.int .i64 t102, .int .i64 t103]] rfl (by (try simp only [List.map_toArray, List.map_cons, List.map_nil]); first | done | rfl | (simp only [List.length_drop, List.length_take]; rfl)) ?_; (with_reducible refine (impl_ShareOk.calls t102 t103 true _ A53.out).mono ?_); rintro e w66 ⟨rfl, hb⟩; refine ⟨_, rfl, ?_⟩; have n0_ := aM (blk_below (g := gb106) (o := .cells #[.int .i64 t102, .int .i64 t103] 50 (0, 0)) (by (with_reducible repeat (first | apply bkD | apply bkd | apply bkA)); refine blk_far ?_ NB106_118.out _; (with_reducible repeat (first | apply bkD | apply bkd | apply bkA)); refine blk_far ?_ NB106_118.out _; (with_reducible repeat (first | apply bkD | apply bkd | apply bkA)); exact BK106.out) hb); have n1_ := aM (blk_below (g := gb107) (o := .cells #[.int .i64 t104, .int .i64 t105] 50 (0, 0)) (by (with_reducible repeat (first | apply bkD | apply bkd | apply bkA)); refine blk_far ?_ NB107_118.out _; (with_reducible repeat (first | apply bkD | apply bkd | apply bkA)); refine blk_far ?_ NB107_118.out _; (with_reducible repeat (first | apply bkD | apply bkd | apply bkA)); exact BK107.out) hb); have n2_ := aM (blk_below (g := gb118) (o := .cells #[.int .i64 1, .int .i64 (wrap64 (2 + (Int.tmod t117 5)))] 50 (0, 0)) (by (with_reducible repeat (first | apply bkD | apply bkd | apply bkA)); refine blk_put (cs := #[.int .i64 1, .int .i64 0]) ?_ 1 _ rfl; (with_reducible repeat (first | apply bkD | apply bkd | apply bkA)); refine blk_put (cs := #[.int .i64 0, .int .i64 0]) ?_ 0 _ rfl; (with_reducible repeat (first | apply bkD | apply bkd | apply bkA)); exact BK118.out) hb); have n3_ := aM (below_step (by repeat (first | (with_reducible first | exact HB.out | apply beA | apply beD | apply bed | refine beS ?_ GE106.out | refine beS ?_ GE107.out | refine beS ?_ GE118.out) | exact HB.out)) hb); clear BK106; clear BK107; clear BK118; clear HB; have BK106 := n0_; have BK107 := n1_; have BK118 := n2_; have HB := n3_; clear n0_ n1_ n2_ n3_; (try clear hb); (try clear hb2); (try clear hk); (try clear hi); obtain ⟨hcz67_0, hcz67_1⟩ := cz2 BK107.out; have hfz67_0 := blk_frozen BK107.out) | (go_at_call 48; (with_reducible refine (impl_ShareOk.calls t104 t105 true _ A55.out).mono ?_); rintro e w68 ⟨rfl, hb⟩; have n0_ := aM (blk_below (g := gb106) (o := .cells #[.int .i64 t102, .int .i64 t103] 50 (0, 0)) (by (with_reducible repeat (first | apply bkD | apply bkd | apply bkA)); exact BK106.out) hb); have n1_ := aM (blk_below (g := gb107) (o := .cells #[.int .i64 t104, .int .i64 t105] 50 (0, 0)) (by (with_reducible repeat (first | apply bkD | apply bkd | apply bkA)); exact BK107.out) hb); have n2_ := aM (blk_below (g := gb118) (o := .cells #[.int .i64 1, .int .i64 (wrap64 (2 + (Int.tmod t117 5)))] 50 (0, 0)) (by (with_reducible repeat (first | apply bkD | apply bkd | apply bkA)); exact BK118.out) hb); have n3_ := aM (below_step (by repeat (first | (with_reducible first | exact HB.out | apply beA | apply beD | apply bed | refine beS ?_ GE106.out | refine beS ?_ GE107.out | refine beS ?_ GE118.out) | exact HB.out)) hb); clear BK106; clear BK107; clear BK118; clear HB; have BK106 := n0_; have BK107 := n1_; have BK118 := n2_; have HB := n3_; clear n0_ n1_ n2_ n3_; (try clear hb); (try clear hb2); (try clear hk); (try clear hi); obtain ⟨hcz69_0, hcz69_1⟩ := cz2 BK107.out; have hfz69_0 := blk_frozen BK107.out; have hcz70_0 : w68.cell? ⟨gb118, 0, none⟩ = some (.int .i64 1) := (blk_cell BK118.out 0).trans rfl; have hcz70_1 : w68.cell? ⟨gb118, 1, none⟩ = some (.int .i64 (wrap64 (2 + (Int.tmod t117 5)))) := (blk_cell BK118.out 1).trans rfl; have hfz70_0 := blk_frozen BK118.out) | ((with_reducible refine gate_dst (N := 58) rfl ?_); (try (refine gate_guard (by rfl) ?_; dsimp only)); refine Kd.R_lit k50 _ 50 ?hg (N := 58) ?hd (xs := ([(⟨t104, t105⟩ : S50), (⟨1, wrap64 (2 + (Int.tmod t117 5))⟩ : S50)] : List (S50))) (inner := [.int .i64 t104, .int .i64 t105, .int .i64 1, .int .i64 (wrap64 (2 + (Int.tmod t117 5)))]) (ok := fun _ => True) (okp := fun _ => True) ?hr ?hp (fun _ hk => hk) trivial (Below.refl _ _) (Nat.le_refl _) (by simp) ?_; (case hd => rfl); (case hg => rfl); (case hr => first | (go_simp; done) | (go_simp; rfl)); (case hp => exact (Reps.c2 (show Kd.M k50 _ _ _ (⟨t104, t105⟩ : S50) [.int .i64 t104, .int .i64 t105] from (k50_mkM _ _ _ (⟨t104, t105⟩ : S50) )) (Reps.c2 (show Kd.M k50 _ _ _ (⟨1, wrap64 (2 + (Int.tmod t117 5))⟩ : S50) [.int .i64 1, .int .i64 (wrap64 (2 + (Int.tmod t117 5)))] from (k50_mkM _ _ _ (⟨1, wrap64 (2 + (Int.tmod t117 5))⟩ : S50) )) (Reps.none _ _)))); intro v122 w71 ho72 hb hg_ hnew_; clear hg_ hnew_; (first | rw [← Ny121.out] at ho72 | (simp only [Int.reduceToNat] at ho72; rw [← Ny121.out] at ho72)); have n0_ := aM (Kd.R_lower (Kd.R_newB (Kd.R_newB (Kd.R_newB ho72 (g := gb106) (o := .cells #[.int .i64 t102, .int .i64 t103] 50 (0, 0)) (by (with_reducible repeat (first | apply bkD | apply bkd | apply bkA)); exact BK106.out)) (g := gb107) (o := .cells #[.int .i64 t104, .int .i64 t105] 50 (0, 0)) (by (with_reducible repeat (first | apply bkD | apply bkd | apply bkA)); exact BK107.out)) (g := gb118) (o := .cells #[.int .i64 1, .int .i64 (wrap64 (2 + (Int.tmod t117 5)))] 50 (0, 0)) (by (with_reducible repeat (first | apply bkD | apply bkd | apply bkA)); exact BK118.out)) (below_size (by repeat (first | (with_reducible first | exact HB.out | apply beA | apply beD | apply bed | refine beS ?_ GE106.out | refine beS ?_ GE107.out | refine beS ?_ GE118.out) | exact HB.out)))); have n1_ := aM (blk_below (g := gb106) (o := .cells #[.int .i64 t102, .int .i64 t103] 50 (0, 0)) (by (with_reducible repeat (first | apply bkD | apply bkd | apply bkA)); exact BK106.out) hb); have n2_ := aM (blk_below (g := gb107) (o := .cells #[.int .i64 t104, .int .i64 t105] 50 (0, 0)) (by (with_reducible repeat (first | apply bkD | apply bkd | apply bkA)); exact BK107.out) hb); have n3_ := aM (blk_below (g := gb118) (o := .cells #[.int .i64 1, .int .i64 (wrap64 (2 + (Int.tmod t117 5)))] 50 (0, 0)) (by (with_reducible repeat (first | apply bkD | apply bkd | apply bkA)); exact BK118.out) hb); have n4_ := aM (below_step (by repeat (first | (with_reducible first | exact HB.out | apply beA | apply beD | apply bed | refine beS ?_ GE106.out | refine beS ?_ GE107.out | refine beS ?_ GE118.out) | exact HB.out)) hb); clear BK106; clear BK107; clear BK118; clear HB; have HO123 := n0_; have BK106 := n1_; have BK107 := n2_; have BK118 := n3_; have HB := n4_; clear n0_ n1_ n2_ n3_ n4_; clear hb ho72; obtain ⟨Ao73, co73, eo73⟩ := Kd.R_slice HO123.out; subst eo73) | (go_at_call 44; (with_reducible refine (impl_Fits.calls kj5 _ _ y121 true _ ?side1 ?side2 A57.out).mono ?_); (case side1 => repeat (first | exact (Kd.R_reads' HO123.out).2.2 | (with_reducible refine Kd.C_alloc ?_ _) | (with_reducible refine Kd.C_drewN ?_ _) | (with_reducible refine Kd.C_drew ?_))); (case side2 => exact (Kd.R_reads' HO123.out).2.1); rintro e w74 ⟨rfl, hb⟩; have n0_ := aM (Kd.R_below (by (with_reducible repeat (first | apply Kd.R_alloc | apply Kd.R_drewN | apply Kd.R_drew)); exact HO123.out) hb); have n1_ := aM (blk_below (g := gb106) (o := .cells #[.int .i64 t102, .int .i64 t103] 50 (0, 0)) (by (with_reducible repeat (first | apply bkD | apply bkd | apply bkA)); exact BK106.out) hb); have n2_ := aM (blk_below (g := gb107) (o := .cells #[.int .i64 t104, .int .i64 t105] 50 (0, 0)) (by (with_reducible repeat (first | apply bkD | apply bkd | apply bkA)); exact BK107.out) hb); have n3_ := aM (blk_below (g := gb118) (o := .cells #[.int .i64 1, .int .i64 (wrap64 (2 + (Int.tmod t117 5)))] 50 (0, 0)) (by (with_reducible repeat (first | apply bkD | apply bkd | apply bkA)); exact BK118.out) hb); have n4_ := aM (below_step (by repeat (first | (with_reducible first | exact HB.out | apply beA | apply beD | apply bed | refine beS ?_ GE106.out | refine beS ?_ GE107.out | refine beS ?_ GE118.out) | exact HB.out)) hb); clear HO123; clear BK106; clear BK107; clear BK118; clear HB; have HO123 := n0_; have BK106 := n1_; have BK107 := n2_; have BK118 := n3_; have HB := n4_; clear n0_ n1_ n2_ n3_ n4_; (try clear hb); (try clear hb2); (try clear hk); (try clear hi); obtain ⟨hcz75_0, hcz75_1⟩ := cz2 BK106.out; have hfz75_0 := blk_frozen BK106.out; have hcz76_0 : w74.cell? ⟨gb118, 0, none⟩ = some (.int .i64 1) := (blk_cell BK118.out 0).trans rfl; have hcz76_1 : w74.cell? ⟨gb118, 1, none⟩ = some (.int .i64 (wrap64 (2 + (Int.tmod t117 5)))) := (blk_cell BK118.out 1).trans rfl; have hfz76_0 := blk_frozen BK118.out) | ((with_reducible refine gate_dst (N := 64) rfl ?_); (try (refine gate_guard (by rfl) ?_; dsimp only)); refine Kd.R_lit k50 _ 50 ?hg (N := 64) ?hd (xs := ([(⟨t102, t103⟩ : S50), (⟨1, wrap64 (2 + (Int.tmod t117 5))⟩ : S50)] : List (S50))) (inner := [.int .i64 t102, .int .i64 t103, .int .i64 1, .int .i64 (wrap64 (2 + (Int.tmod t117 5)))]) (ok := fun _ => True) (okp := fun _ => True) ?hr ?hp (fun _ hk => hk) trivial (Below.refl _ _) (Nat.le_refl _) (by simp) ?_; (case hd => rfl); (case hg => rfl); (case hr => first | (go_simp; done) | (go_simp; rfl)); (case hp => exact (Reps.c2 (show Kd.M k50 _ _ _ (⟨t102, t103⟩ : S50) [.int .i64 t102, .int .i64 t103] from (k50_mkM _ _ _ (⟨t102, t103⟩ : S50) )) (Reps.c2 (show Kd.M k50 _ _ _ (⟨1, wrap64 (2 + (Int.tmod t117 5))⟩ : S50) [.int .i64 1, .int .i64 (wrap64 (2 + (Int.tmod t117 5)))] from (k50_mkM _ _ _ (⟨1, wrap64 (2 + (Int.tmod t117 5))⟩ : S50) )) (Reps.none _ _)))); intro v126 w77 ho78 hb hg_ hnew_; clear hg_ hnew_; (first | rw [← Ny125.out] at ho78 | (simp only [Int.reduceToNat] at ho78; rw [← Ny125.out] at ho78)); have n0_ := aM (Kd.R_elder' (by (with_reducible repeat (first | apply Kd.R_alloc | apply Kd.R_drewN | apply Kd.R_drew)); exact HO123.out) (Kd.R_base ho78) hb); have n1_ := aM (Kd.R_lower (Kd.R_newB (Kd.R_newB (Kd.R_newB (Kd.R_new' ho78 (Kd.R_lt (by (with_reducible repeat (first | apply Kd.R_alloc | apply Kd.R_drewN | apply Kd.R_drew)); exact HO123.out))) (g := gb106) (o := .cells #[.int .i64 t102, .int .i64 t103] 50 (0, 0)) (by (with_reducible repeat (first | apply bkD | apply bkd | apply bkA)); exact BK106.out)) (g := gb107) (o := .cells #[.int .i64 t104, .int .i64 t105] 50 (0, 0)) (by (with_reducible repeat (first | apply bkD | apply bkd | apply bkA)); exact BK107.out)) (g := gb118) (o := .cells #[.int .i64 1, .int .i64 (wrap64 (2 + (Int.tmod t117 5)))] 50 (0, 0)) (by (with_reducible repeat (first | apply bkD | apply bkd | apply bkA)); exact BK118.out)) (below_size (by repeat (first | (with_reducible first | exact HB.out | apply beA | apply beD | apply bed | refine beS ?_ GE106.out | refine beS ?_ GE107.out | refine beS ?_ GE118.out) | exact HB.out)))); have n2_ := aM (blk_below (g := gb106) (o := .cells #[.int .i64 t102, .int .i64 t103] 50 (0, 0)) (by (with_reducible repeat (first | apply bkD | apply bkd | apply bkA)); exact BK106.out) hb); have n3_ := aM (blk_below (g := gb107) (o := .cells #[.int .i64 t104, .int .i64 t105] 50 (0, 0)) (by (with_reducible repeat (first | apply bkD | apply bkd | apply bkA)); exact BK107.out) hb); have n4_ := aM (blk_below (g := gb118) (o := .cells #[.int .i64 1, .int .i64 (wrap64 (2 + (Int.tmod t117 5)))] 50 (0, 0)) (by (with_reducible repeat (first | apply bkD | apply bkd | apply bkA)); exact BK118.out) hb); have n5_ := aM (below_step (by repeat (first | (with_reducible first | exact HB.out | apply beA | apply beD | apply bed | refine beS ?_ GE106.out | refine beS ?_ GE107.out | refine beS ?_ GE118.out) | exact HB.out)) hb); clear HO123; clear BK106; clear BK107; clear BK118; clear HB; have HO123 := n0_; have HO127 := n1_; have BK106 := n2_; have BK107 := n3_; have BK118 := n4_; have HB := n5_; clear n0_ n1_ n2_ n3_ n4_ n5_; clear hb ho78; obtain ⟨Ao79, co79, eo79⟩ := Kd.R_slice HO127.out; subst eo79) | (go_at_call 44; (with_reducible refine (impl_Fits.calls kj5 _ _ y125 t128 _ ?side1 ?side2 A59.out).mono ?_); (case side1 => repeat (first | exact (Kd.R_reads' HO127.out).2.2 | (with_reducible refine Kd.C_alloc ?_ _) | (with_reducible refine Kd.C_drewN ?_ _) | (with_reducible refine Kd.C_drew ?_))); (case side2 => exact (Kd.R_reads' HO127.out).2.1); rintro e w80 ⟨rfl, hb⟩; have n0_ := aM (Kd.R_below (by (with_reducible repeat (first | apply Kd.R_alloc | apply Kd.R_drewN | apply Kd.R_drew)); exact HO123.out) hb); have n1_ := aM (Kd.R_below (by (with_reducible repeat (first | apply Kd.R_alloc | apply Kd.R_drewN | apply Kd.R_drew)); exact HO127.out) hb); have n2_ := aM (blk_below (g := gb106) (o := .cells #[.int .i64 t102, .int .i64 t103] 50 (0, 0)) (by (with_reducible repeat (first | apply bkD | apply bkd | apply bkA)); exact BK106.out) hb); have n3_ := aM (blk_below (g := gb107) (o := .cells #[.int .i64 t104, .int .i64 t105] 50 (0, 0)) (by (with_reducible repeat (first | apply bkD | apply bkd | apply bkA)); exact BK107.out) hb); have n4_ := aM (blk_below (g := gb118) (o := .cells #[.int .i64 1, .int .i64 (wrap64 (2 + (Int.tmod t117 5)))] 50 (0, 0)) (by (with_reducible repeat (first | apply bkD | apply bkd | apply bkA)); exact BK118.out) hb); have n5_ := aM (below_step (by repeat (first | (with_reducible first | exact HB.out | apply beA | apply beD | apply bed | refine beS ?_ GE106.out | refine beS ?_ GE107.out | refine beS ?_ GE118.out) | exact HB.out)) hb); clear HO123; clear HO127; clear BK106; clear BK107; clear BK118; clear HB; have HO123 := n0_; have HO127 := n1_; have BK106 := n2_; have BK107 := n3_; have BK118 := n4_; have HB := n5_; clear n0_ n1_ n2_ n3_ n4_ n5_; (try clear hb); (try clear hb2); (try clear hk); (try clear hi)))
              go_ret
              exact ⟨by first | rfl | (simp <;> rfl) | (simp [*] <;> rfl), by repeat (first | (with_reducible first | exact HB.out | apply beA | apply beD | apply bed | refine beS ?_ GE106.out | refine beS ?_ GE107.out | refine beS ?_ GE118.out) | exact HB.out)⟩
            replace c58 := Bool.eq_false_iff.mpr c58
            subst c58
            have H1 : (some true) = some r := by rw [if_neg (show ¬ (false = true) by decide)] at H; exact H
            clear H
            have H := H1
            clear H1
            obtain rfl := Option.some.inj H
            go_wp2_with (first | ((with_reducible refine gate_callee (f := 50) rfl ?_); refine goesL_ (some 45) rfl rfl Try.func50 (by kernel_rfl) rfl #[.slice A0 l0.length c0, .int .i64 1] rfl (by (try simp only [List.map_toArray, List.map_cons, List.map_nil]); first | done | rfl | (simp only [List.length_drop, List.length_take]; rfl)) ?_; (with_reducible refine (laws_at.calls _ _ l0 1 t117 _ ?side1 ?side2 A52.out).mono ?_); (case side1 => repeat (first | exact (Kd.C_below HR0.out HB.out) | (with_reducible refine Kd.C_alloc ?_ _) | (with_reducible refine Kd.C_drewN ?_ _) | (with_reducible refine Kd.C_drew ?_))); (case side2 => exact HC0.out); rintro e w' ⟨rfl, ⟨nd, rfl⟩⟩; refine ⟨_, rfl, ?_⟩; (try (rw [drewN_self wc]; generalize hq_ : World.drewN wc _ = wc; have n0_ : Aside0 (wc.heap[gb106]? = some (.cells #[.int .i64 t102, .int .i64 t103] 50 (0, 0))) := ⟨by rw [← hq_]; exact (by (with_reducible repeat (first | apply bkD | apply bkd | apply bkA)); exact BK106.out)⟩; have n1_ : Aside0 (wc.heap[gb107]? = some (.cells #[.int .i64 t104, .int .i64 t105] 50 (0, 0))) := ⟨by rw [← hq_]; exact (by (with_reducible repeat (first | apply bkD | apply bkd | apply bkA)); exact BK107.out)⟩; have n2_ : Aside0 (Below w.heap.size w wc) := ⟨by rw [← hq_]; exact (by repeat (first | (with_reducible first | exact HB.out | apply beA | apply beD | apply bed | refine beS ?_ GE106.out | refine beS ?_ GE107.out) | exact HB.out))⟩; clear BK106 BK107 HB hq_; have BK106 := n0_; have BK107 := n1_; have HB := n2_; clear n0_ n1_ n2_))) | ((with_reducible refine gate_dst (N := 6) rfl ?_); (try (refine gate_guard (by rfl) ?_; dsimp only)); refine box_event ?hg (N := 6) ?hd (cs := #[.int .i64 0, .int .i64 0]) (t := 50) ?hr ?_; (case hd => rfl); (case hg => rfl); (case hr => first | (go_simp; done) | (go_simp; rfl)); intro gb118 hg w81 hbox hb; have n0_ := aM (blk_below (g := gb106) (o := .cells #[.int .i64 t102, .int .i64 t103] 50 (0, 0)) (by (with_reducible repeat (first | apply bkD | apply bkd | apply bkA)); exact BK106.out) hb); have n1_ := aM (blk_below (g := gb107) (o := .cells #[.int .i64 t104, .int .i64 t105] 50 (0, 0)) (by (with_reducible repeat (first | apply bkD | apply bkd | apply bkA)); exact BK107.out) hb); have n2_ := aM (below_step (by repeat (first | (with_reducible first | exact HB.out | apply beA | apply beD | apply bed | refine beS ?_ GE106.out | refine beS ?_ GE107.out) | exact HB.out)) hb); have n3_ := aM (hbox); have n4_ := aM ((by rw [hg]; exact (below_size (by repeat (first | (with_reducible first | exact HB.out | apply beA | apply beD | apply bed | refine beS ?_ GE106.out | refine beS ?_ GE107.out) | exact HB.out))) : w.heap.size ≤ gb118)); have n5_ := n4_; have n6_ := aM ((by rw [hg]; exact Nat.ne_of_lt (blk_lt (g := gb106) (o := .cells #[.int .i64 t102, .int .i64 t103] 50 (0, 0)) (by (with_reducible repeat (first | apply bkD | apply bkd | apply bkA)); exact BK106.out)) : gb106 ≠ gb118)); have n7_ := aM (n6_.out.symm); have n8_ := aM ((by rw [hg]; exact Nat.ne_of_lt (blk_lt (g := gb107) (o := .cells #[.int .i64 t104, .int .i64 t105] 50 (0, 0)) (by (with_reducible repeat (first | apply bkD | apply bkd | apply bkA)); exact BK107.out)) : gb107 ≠ gb118)); have n9_ := aM (n8_.out.symm); clear BK106; clear BK107; clear HB; have BK106 := n0_; have BK107 := n1_; have HB := n2_; have BK118 := n3_; have GW118 := n4_; have GE118 := n5_; have NB106_118 := n6_; have NB118_106 := n7_; have NB107_118 := n8_; have NB118_107 := n9_; clear n0_ n1_ n2_ n3_ n4_ n5_ n6_ n7_ n8_ n9_; clear hb hbox hg; have hnb82 := NB118_106.out; have hnc82 := NB106_118.out; have hnb83 := NB118_107.out; have hnc83 := NB107_118.out; obtain ⟨hcz84_0, hcz84_1⟩ := cz2 BK118.out; have hfz84_0 := blk_frozen BK118.out; have hnb85 := NB106_107.out; have hnc85 := NB107_106.out; obtain ⟨hcz86_0, hcz86_1⟩ := cz2 BK106.out; have hfz86_0 := blk_frozen BK106.out) | ((with_reducible refine gate_callee (f := 48) rfl ?_); refine goesL_ (some 50) rfl rfl Try.func48 (by kernel_rfl) rfl #[.agg #[.int .i64 t102, .int .i64 t103]] rfl (by (try simp only [List.map_toArray, List.map_cons, List.map_nil]); first | done | rfl | (simp only [List.length_drop, List.length_take]; rfl)) ?_; (with_reducible refine (impl_ShareOk.calls t102 t103 true _ A53.out).mono ?_); rintro e w87 ⟨rfl, hb⟩; refine ⟨_, rfl, ?_⟩; have n0_ := aM (blk_below (g := gb106) (o := .cells #[.int .i64 t102, .int .i64 t103] 50 (0, 0)) (by (with_reducible repeat (first | apply bkD | apply bkd | apply bkA)); refine blk_far ?_ NB106_118.out _; (with_reducible repeat (first | apply bkD | apply bkd | apply bkA)); refine blk_far ?_ NB106_118.out _; (with_reducible repeat (first | apply bkD | apply bkd | apply bkA)); exact BK106.out) hb); have n1_ := aM (blk_below (g := gb107) (o := .cells #[.int .i64 t104, .int .i64 t105] 50 (0, 0)) (by (with_reducible repeat (first | apply bkD | apply bkd | apply bkA)); refine blk_far ?_ NB107_118.out _; (with_reducible repeat (first | apply bkD | apply bkd | apply bkA)); refine blk_far ?_ NB107_118.out _; (with_reducible repeat (first | apply bkD | apply bkd | apply bkA)); exact BK107.out) hb); have n2_ := aM (blk_below (g := gb118) (o := .cells #[.int .i64 1, .int .i64 (wrap64 (2 + (Int.tmod t117 5)))] 50 (0, 0)) (by (with_reducible repeat (first | apply bkD | apply bkd | apply bkA)); refine blk_put (cs := #[.int .i64 1, .int .i64 0]) ?_ 1 _ rfl; (with_reducible repeat (first | apply bkD | apply bkd | apply bkA)); refine blk_put (cs := #[.int .i64 0, .int .i64 0]) ?_ 0 _ rfl; (with_reducible repeat (first | apply bkD | apply bkd | apply bkA)); exact BK118.out) hb); have n3_ := aM (below_step (by repeat (first | (with_reducible first | exact HB.out | apply beA | apply beD | apply bed | refine beS ?_ GE106.out | refine beS ?_ GE107.out | refine beS ?_ GE118.out) | exact HB.out)) hb); clear BK106; clear BK107; clear BK118; clear HB; have BK106 := n0_; have BK107 := n1_; have BK118 := n2_; have HB := n3_; clear n0_ n1_ n2_ n3_; (try clear hb); (try clear hb2); (try clear hk); (try clear hi); obtain ⟨hcz88_0, hcz88_1⟩ := cz2 BK107.out; have hfz88_0 := blk_frozen BK107.out) | (go_at_call 48; (with_reducible refine (impl_ShareOk.calls t104 t105 true _ A55.out).mono ?_); rintro e w89 ⟨rfl, hb⟩; have n0_ := aM (blk_below (g := gb106) (o := .cells #[.int .i64 t102, .int .i64 t103] 50 (0, 0)) (by (with_reducible repeat (first | apply bkD | apply bkd | apply bkA)); exact BK106.out) hb); have n1_ := aM (blk_below (g := gb107) (o := .cells #[.int .i64 t104, .int .i64 t105] 50 (0, 0)) (by (with_reducible repeat (first | apply bkD | apply bkd | apply bkA)); exact BK107.out) hb); have n2_ := aM (blk_below (g := gb118) (o := .cells #[.int .i64 1, .int .i64 (wrap64 (2 + (Int.tmod t117 5)))] 50 (0, 0)) (by (with_reducible repeat (first | apply bkD | apply bkd | apply bkA)); exact BK118.out) hb); have n3_ := aM (below_step (by repeat (first | (with_reducible first | exact HB.out | apply beA | apply beD | apply bed | refine beS ?_ GE106.out | refine beS ?_ GE107.out | refine beS ?_ GE118.out) | exact HB.out)) hb); clear BK106; clear BK107; clear BK118; clear HB; have BK106 := n0_; have BK107 := n1_; have BK118 := n2_; have HB := n3_; clear n0_ n1_ n2_ n3_; (try clear hb); (try clear hb2); (try clear hk); (try clear hi); obtain ⟨hcz90_0, hcz90_1⟩ := cz2 BK107.out; have hfz90_0 := blk_frozen BK107.out; have hcz91_0 : w89.cell? ⟨gb118, 0, none⟩ = some (.int .i64 1) := (blk_cell BK118.out 0).trans rfl; have hcz91_1 : w89.cell? ⟨gb118, 1, none⟩ = some (.int .i64 (wrap64 (2 + (Int.tmod t117 5)))) := (blk_cell BK118.out 1).trans rfl; have hfz91_0 := blk_frozen BK118.out) | ((with_reducible refine gate_dst (N := 58) rfl ?_); (try (refine gate_guard (by rfl) ?_; dsimp only)); refine Kd.R_lit k50 _ 50 ?hg (N := 58) ?hd (xs := ([(⟨t104, t105⟩ : S50), (⟨1, wrap64 (2 + (Int.tmod t117 5))⟩ : S50)] : List (S50))) (inner := [.int .i64 t104, .int .i64 t105, .int .i64 1, .int .i64 (wrap64 (2 + (Int.tmod t117 5)))]) (ok := fun _ => True) (okp := fun _ => True) ?hr ?hp (fun _ hk => hk) trivial (Below.refl _ _) (Nat.le_refl _) (by simp) ?_; (case hd => rfl); (case hg => rfl); (case hr => first | (go_simp; done) | (go_simp; rfl)); (case hp => exact (Reps.c2 (show Kd.M k50 _ _ _ (⟨t104, t105⟩ : S50) [.int .i64 t104, .int .i64 t105] from (k50_mkM _ _ _ (⟨t104, t105⟩ : S50) )) (Reps.c2 (show Kd.M k50 _ _ _ (⟨1, wrap64 (2 + (Int.tmod t117 5))⟩ : S50) [.int .i64 1, .int .i64 (wrap64 (2 + (Int.tmod t117 5)))] from (k50_mkM _ _ _ (⟨1, wrap64 (2 + (Int.tmod t117 5))⟩ : S50) )) (Reps.none _ _)))); intro v122 w92 ho93 hb hg_ hnew_; clear hg_ hnew_; (first | rw [← Ny121.out] at ho93 | (simp only [Int.reduceToNat] at ho93; rw [← Ny121.out] at ho93)); have n0_ := aM (Kd.R_lower (Kd.R_newB (Kd.R_newB (Kd.R_newB ho93 (g := gb106) (o := .cells #[.int .i64 t102, .int .i64 t103] 50 (0, 0)) (by (with_reducible repeat (first | apply bkD | apply bkd | apply bkA)); exact BK106.out)) (g := gb107) (o := .cells #[.int .i64 t104, .int .i64 t105] 50 (0, 0)) (by (with_reducible repeat (first | apply bkD | apply bkd | apply bkA)); exact BK107.out)) (g := gb118) (o := .cells #[.int .i64 1, .int .i64 (wrap64 (2 + (Int.tmod t117 5)))] 50 (0, 0)) (by (with_reducible repeat (first | apply bkD | apply bkd | apply bkA)); exact BK118.out)) (below_size (by repeat (first | (with_reducible first | exact HB.out | apply beA | apply beD | apply bed | refine beS ?_ GE106.out | refine beS ?_ GE107.out | refine beS ?_ GE118.out) | exact HB.out)))); have n1_ := aM (blk_below (g := gb106) (o := .cells #[.int .i64 t102, .int .i64 t103] 50 (0, 0)) (by (with_reducible repeat (first | apply bkD | apply bkd | apply bkA)); exact BK106.out) hb); have n2_ := aM (blk_below (g := gb107) (o := .cells #[.int .i64 t104, .int .i64 t105] 50 (0, 0)) (by (with_reducible repeat (first | apply bkD | apply bkd | apply bkA)); exact BK107.out) hb); have n3_ := aM (blk_below (g := gb118) (o := .cells #[.int .i64 1, .int .i64 (wrap64 (2 + (Int.tmod t117 5)))] 50 (0, 0)) (by (with_reducible repeat (first | apply bkD | apply bkd | apply bkA)); exact BK118.out) hb); have n4_ := aM (below_step (by repeat (first | (with_reducible first | exact HB.out | apply beA | apply beD | apply bed | refine beS ?_ GE106.out | refine beS ?_ GE107.out | refine beS ?_ GE118.out) | exact HB.out)) hb); clear BK106; clear BK107; clear BK118; clear HB; have HO123 := n0_; have BK106 := n1_; have BK107 := n2_; have BK118 := n3_; have HB := n4_; clear n0_ n1_ n2_ n3_ n4_; clear hb ho93; obtain ⟨Ao94, co94, eo94⟩ := Kd.R_slice HO123.out; subst eo94) | (go_at_call 44; (with_reducible refine (impl_Fits.calls kj5 _ _ y121 false _ ?side1 ?side2 A57.out).mono ?_); (case side1 => repeat (first | exact (Kd.R_reads' HO123.out).2.2 | (with_reducible refine Kd.C_alloc ?_ _) | (with_reducible refine Kd.C_drewN ?_ _) | (with_reducible refine Kd.C_drew ?_))); (case side2 => exact (Kd.R_reads' HO123.out).2.1); rintro e w95 ⟨rfl, hb⟩; have n0_ := aM (Kd.R_below (by (with_reducible repeat (first | apply Kd.R_alloc | apply Kd.R_drewN | apply Kd.R_drew)); exact HO123.out) hb); have n1_ := aM (blk_below (g := gb106) (o := .cells #[.int .i64 t102, .int .i64 t103] 50 (0, 0)) (by (with_reducible repeat (first | apply bkD | apply bkd | apply bkA)); exact BK106.out) hb); have n2_ := aM (blk_below (g := gb107) (o := .cells #[.int .i64 t104, .int .i64 t105] 50 (0, 0)) (by (with_reducible repeat (first | apply bkD | apply bkd | apply bkA)); exact BK107.out) hb); have n3_ := aM (blk_below (g := gb118) (o := .cells #[.int .i64 1, .int .i64 (wrap64 (2 + (Int.tmod t117 5)))] 50 (0, 0)) (by (with_reducible repeat (first | apply bkD | apply bkd | apply bkA)); exact BK118.out) hb); have n4_ := aM (below_step (by repeat (first | (with_reducible first | exact HB.out | apply beA | apply beD | apply bed | refine beS ?_ GE106.out | refine beS ?_ GE107.out | refine beS ?_ GE118.out) | exact HB.out)) hb); clear HO123; clear BK106; clear BK107; clear BK118; clear HB; have HO123 := n0_; have BK106 := n1_; have BK107 := n2_; have BK118 := n3_; have HB := n4_; clear n0_ n1_ n2_ n3_ n4_; (try clear hb); (try clear hb2); (try clear hk); (try clear hi)))
            go_ret
            exact ⟨by first | rfl | (simp <;> rfl) | (simp [*] <;> rfl), by repeat (first | (with_reducible first | exact HB.out | apply beA | apply beD | apply bed | refine beS ?_ GE106.out | refine beS ?_ GE107.out | refine beS ?_ GE118.out) | exact HB.out)⟩
          replace c56 := Bool.eq_false_iff.mpr c56
          subst c56
          have H1 : (some false) = some r := by rw [if_neg (show ¬ (false = true) by decide)] at H; exact H
          clear H
          have H := H1
          clear H1
          obtain rfl := Option.some.inj H
          go_wp2_with (first | ((with_reducible refine gate_callee (f := 50) rfl ?_); refine goesL_ (some 45) rfl rfl Try.func50 (by kernel_rfl) rfl #[.slice A0 l0.length c0, .int .i64 1] rfl (by (try simp only [List.map_toArray, List.map_cons, List.map_nil]); first | done | rfl | (simp only [List.length_drop, List.length_take]; rfl)) ?_; (with_reducible refine (laws_at.calls _ _ l0 1 t117 _ ?side1 ?side2 A52.out).mono ?_); (case side1 => repeat (first | exact (Kd.C_below HR0.out HB.out) | (with_reducible refine Kd.C_alloc ?_ _) | (with_reducible refine Kd.C_drewN ?_ _) | (with_reducible refine Kd.C_drew ?_))); (case side2 => exact HC0.out); rintro e w' ⟨rfl, ⟨nd, rfl⟩⟩; refine ⟨_, rfl, ?_⟩; (try (rw [drewN_self wc]; generalize hq_ : World.drewN wc _ = wc; have n0_ : Aside0 (wc.heap[gb106]? = some (.cells #[.int .i64 t102, .int .i64 t103] 50 (0, 0))) := ⟨by rw [← hq_]; exact (by (with_reducible repeat (first | apply bkD | apply bkd | apply bkA)); exact BK106.out)⟩; have n1_ : Aside0 (wc.heap[gb107]? = some (.cells #[.int .i64 t104, .int .i64 t105] 50 (0, 0))) := ⟨by rw [← hq_]; exact (by (with_reducible repeat (first | apply bkD | apply bkd | apply bkA)); exact BK107.out)⟩; have n2_ : Aside0 (Below w.heap.size w wc) := ⟨by rw [← hq_]; exact (by repeat (first | (with_reducible first | exact HB.out | apply beA | apply beD | apply bed | refine beS ?_ GE106.out | refine beS ?_ GE107.out) | exact HB.out))⟩; clear BK106 BK107 HB hq_; have BK106 := n0_; have BK107 := n1_; have HB := n2_; clear n0_ n1_ n2_))) | ((with_reducible refine gate_dst (N := 6) rfl ?_); (try (refine gate_guard (by rfl) ?_; dsimp only)); refine box_event ?hg (N := 6) ?hd (cs := #[.int .i64 0, .int .i64 0]) (t := 50) ?hr ?_; (case hd => rfl); (case hg => rfl); (case hr => first | (go_simp; done) | (go_simp; rfl)); intro gb118 hg w96 hbox hb; have n0_ := aM (blk_below (g := gb106) (o := .cells #[.int .i64 t102, .int .i64 t103] 50 (0, 0)) (by (with_reducible repeat (first | apply bkD | apply bkd | apply bkA)); exact BK106.out) hb); have n1_ := aM (blk_below (g := gb107) (o := .cells #[.int .i64 t104, .int .i64 t105] 50 (0, 0)) (by (with_reducible repeat (first | apply bkD | apply bkd | apply bkA)); exact BK107.out) hb); have n2_ := aM (below_step (by repeat (first | (with_reducible first | exact HB.out | apply beA | apply beD | apply bed | refine beS ?_ GE106.out | refine beS ?_ GE107.out) | exact HB.out)) hb); have n3_ := aM (hbox); have n4_ := aM ((by rw [hg]; exact (below_size (by repeat (first | (with_reducible first | exact HB.out | apply beA | apply beD | apply bed | refine beS ?_ GE106.out | refine beS ?_ GE107.out) | exact HB.out))) : w.heap.size ≤ gb118)); have n5_ := n4_; have n6_ := aM ((by rw [hg]; exact Nat.ne_of_lt (blk_lt (g := gb106) (o := .cells #[.int .i64 t102, .int .i64 t103] 50 (0, 0)) (by (with_reducible repeat (first | apply bkD | apply bkd | apply bkA)); exact BK106.out)) : gb106 ≠ gb118)); have n7_ := aM (n6_.out.symm); have n8_ := aM ((by rw [hg]; exact Nat.ne_of_lt (blk_lt (g := gb107) (o := .cells #[.int .i64 t104, .int .i64 t105] 50 (0, 0)) (by (with_reducible repeat (first | apply bkD | apply bkd | apply bkA)); exact BK107.out)) : gb107 ≠ gb118)); have n9_ := aM (n8_.out.symm); clear BK106; clear BK107; clear HB; have BK106 := n0_; have BK107 := n1_; have HB := n2_; have BK118 := n3_; have GW118 := n4_; have GE118 := n5_; have NB106_118 := n6_; have NB118_106 := n7_; have NB107_118 := n8_; have NB118_107 := n9_; clear n0_ n1_ n2_ n3_ n4_ n5_ n6_ n7_ n8_ n9_; clear hb hbox hg; have hnb97 := NB118_106.out; have hnc97 := NB106_118.out; have hnb98 := NB118_107.out; have hnc98 := NB107_118.out; obtain ⟨hcz99_0, hcz99_1⟩ := cz2 BK118.out; have hfz99_0 := blk_frozen BK118.out; have hnb100 := NB106_107.out; have hnc100 := NB107_106.out; obtain ⟨hcz101_0, hcz101_1⟩ := cz2 BK106.out; have hfz101_0 := blk_frozen BK106.out) | ((with_reducible refine gate_callee (f := 48) rfl ?_); refine goesL_ (some 50) rfl rfl Try.func48 (by kernel_rfl) rfl #[.agg #[.int .i64 t102, .int .i64 t103]] rfl (by (try simp only [List.map_toArray, List.map_cons, List.map_nil]); first | done | rfl | (simp only [List.length_drop, List.length_take]; rfl)) ?_; (with_reducible refine (impl_ShareOk.calls t102 t103 true _ A53.out).mono ?_); rintro e w102 ⟨rfl, hb⟩; refine ⟨_, rfl, ?_⟩; have n0_ := aM (blk_below (g := gb106) (o := .cells #[.int .i64 t102, .int .i64 t103] 50 (0, 0)) (by (with_reducible repeat (first | apply bkD | apply bkd | apply bkA)); refine blk_far ?_ NB106_118.out _; (with_reducible repeat (first | apply bkD | apply bkd | apply bkA)); refine blk_far ?_ NB106_118.out _; (with_reducible repeat (first | apply bkD | apply bkd | apply bkA)); exact BK106.out) hb); have n1_ := aM (blk_below (g := gb107) (o := .cells #[.int .i64 t104, .int .i64 t105] 50 (0, 0)) (by (with_reducible repeat (first | apply bkD | apply bkd | apply bkA)); refine blk_far ?_ NB107_118.out _; (with_reducible repeat (first | apply bkD | apply bkd | apply bkA)); refine blk_far ?_ NB107_118.out _; (with_reducible repeat (first | apply bkD | apply bkd | apply bkA)); exact BK107.out) hb); have n2_ := aM (blk_below (g := gb118) (o := .cells #[.int .i64 1, .int .i64 (wrap64 (2 + (Int.tmod t117 5)))] 50 (0, 0)) (by (with_reducible repeat (first | apply bkD | apply bkd | apply bkA)); refine blk_put (cs := #[.int .i64 1, .int .i64 0]) ?_ 1 _ rfl; (with_reducible repeat (first | apply bkD | apply bkd | apply bkA)); refine blk_put (cs := #[.int .i64 0, .int .i64 0]) ?_ 0 _ rfl; (with_reducible repeat (first | apply bkD | apply bkd | apply bkA)); exact BK118.out) hb); have n3_ := aM (below_step (by repeat (first | (with_reducible first | exact HB.out | apply beA | apply beD | apply bed | refine beS ?_ GE106.out | refine beS ?_ GE107.out | refine beS ?_ GE118.out) | exact HB.out)) hb); clear BK106; clear BK107; clear BK118; clear HB; have BK106 := n0_; have BK107 := n1_; have BK118 := n2_; have HB := n3_; clear n0_ n1_ n2_ n3_; (try clear hb); (try clear hb2); (try clear hk); (try clear hi); obtain ⟨hcz103_0, hcz103_1⟩ := cz2 BK107.out; have hfz103_0 := blk_frozen BK107.out) | (go_at_call 48; (with_reducible refine (impl_ShareOk.calls t104 t105 false _ A55.out).mono ?_); rintro e w104 ⟨rfl, hb⟩; have n0_ := aM (blk_below (g := gb106) (o := .cells #[.int .i64 t102, .int .i64 t103] 50 (0, 0)) (by (with_reducible repeat (first | apply bkD | apply bkd | apply bkA)); exact BK106.out) hb); have n1_ := aM (blk_below (g := gb107) (o := .cells #[.int .i64 t104, .int .i64 t105] 50 (0, 0)) (by (with_reducible repeat (first | apply bkD | apply bkd | apply bkA)); exact BK107.out) hb); have n2_ := aM (blk_below (g := gb118) (o := .cells #[.int .i64 1, .int .i64 (wrap64 (2 + (Int.tmod t117 5)))] 50 (0, 0)) (by (with_reducible repeat (first | apply bkD | apply bkd | apply bkA)); exact BK118.out) hb); have n3_ := aM (below_step (by repeat (first | (with_reducible first | exact HB.out | apply beA | apply beD | apply bed | refine beS ?_ GE106.out | refine beS ?_ GE107.out | refine beS ?_ GE118.out) | exact HB.out)) hb); clear BK106; clear BK107; clear BK118; clear HB; have BK106 := n0_; have BK107 := n1_; have BK118 := n2_; have HB := n3_; clear n0_ n1_ n2_ n3_; (try clear hb); (try clear hb2); (try clear hk); (try clear hi)))
          go_ret
          exact ⟨by first | rfl | (simp <;> rfl) | (simp [*] <;> rfl), by repeat (first | (with_reducible first | exact HB.out | apply beA | apply beD | apply bed | refine beS ?_ GE106.out | refine beS ?_ GE107.out | refine beS ?_ GE118.out) | exact HB.out)⟩
        replace c54 := Bool.eq_false_iff.mpr c54
        subst c54
        have H1 : (some false) = some r := by rw [if_neg (show ¬ (false = true) by decide)] at H; exact H
        clear H
        have H := H1
        clear H1
        obtain rfl := Option.some.inj H
        go_wp2_with (first | ((with_reducible refine gate_callee (f := 50) rfl ?_); refine goesL_ (some 45) rfl rfl Try.func50 (by kernel_rfl) rfl #[.slice A0 l0.length c0, .int .i64 1] rfl (by (try simp only [List.map_toArray, List.map_cons, List.map_nil]); first | done | rfl | (simp only [List.length_drop, List.length_take]; rfl)) ?_; (with_reducible refine (laws_at.calls _ _ l0 1 t117 _ ?side1 ?side2 A52.out).mono ?_); (case side1 => repeat (first | exact (Kd.C_below HR0.out HB.out) | (with_reducible refine Kd.C_alloc ?_ _) | (with_reducible refine Kd.C_drewN ?_ _) | (with_reducible refine Kd.C_drew ?_))); (case side2 => exact HC0.out); rintro e w' ⟨rfl, ⟨nd, rfl⟩⟩; refine ⟨_, rfl, ?_⟩; (try (rw [drewN_self wc]; generalize hq_ : World.drewN wc _ = wc; have n0_ : Aside0 (wc.heap[gb106]? = some (.cells #[.int .i64 t102, .int .i64 t103] 50 (0, 0))) := ⟨by rw [← hq_]; exact (by (with_reducible repeat (first | apply bkD | apply bkd | apply bkA)); exact BK106.out)⟩; have n1_ : Aside0 (wc.heap[gb107]? = some (.cells #[.int .i64 t104, .int .i64 t105] 50 (0, 0))) := ⟨by rw [← hq_]; exact (by (with_reducible repeat (first | apply bkD | apply bkd | apply bkA)); exact BK107.out)⟩; have n2_ : Aside0 (Below w.heap.size w wc) := ⟨by rw [← hq_]; exact (by repeat (first | (with_reducible first | exact HB.out | apply beA | apply beD | apply bed | refine beS ?_ GE106.out | refine beS ?_ GE107.out) | exact HB.out))⟩; clear BK106 BK107 HB hq_; have BK106 := n0_; have BK107 := n1_; have HB := n2_; clear n0_ n1_ n2_))) | ((with_reducible refine gate_dst (N := 6) rfl ?_); (try (refine gate_guard (by rfl) ?_; dsimp only)); refine box_event ?hg (N := 6) ?hd (cs := #[.int .i64 0, .int .i64 0]) (t := 50) ?hr ?_; (case hd => rfl); (case hg => rfl); (case hr => first | (go_simp; done) | (go_simp; rfl)); intro gb118 hg w105 hbox hb; have n0_ := aM (blk_below (g := gb106) (o := .cells #[.int .i64 t102, .int .i64 t103] 50 (0, 0)) (by (with_reducible repeat (first | apply bkD | apply bkd | apply bkA)); exact BK106.out) hb); have n1_ := aM (blk_below (g := gb107) (o := .cells #[.int .i64 t104, .int .i64 t105] 50 (0, 0)) (by (with_reducible repeat (first | apply bkD | apply bkd | apply bkA)); exact BK107.out) hb); have n2_ := aM (below_step (by repeat (first | (with_reducible first | exact HB.out | apply beA | apply beD | apply bed | refine beS ?_ GE106.out | refine beS ?_ GE107.out) | exact HB.out)) hb); have n3_ := aM (hbox); have n4_ := aM ((by rw [hg]; exact (below_size (by repeat (first | (with_reducible first | exact HB.out | apply beA | apply beD | apply bed | refine beS ?_ GE106.out | refine beS ?_ GE107.out) | exact HB.out))) : w.heap.size ≤ gb118)); have n5_ := n4_; have n6_ := aM ((by rw [hg]; exact Nat.ne_of_lt (blk_lt (g := gb106) (o := .cells #[.int .i64 t102, .int .i64 t103] 50 (0, 0)) (by (with_reducible repeat (first | apply bkD | apply bkd | apply bkA)); exact BK106.out)) : gb106 ≠ gb118)); have n7_ := aM (n6_.out.symm); have n8_ := aM ((by rw [hg]; exact Nat.ne_of_lt (blk_lt (g := gb107) (o := .cells #[.int .i64 t104, .int .i64 t105] 50 (0, 0)) (by (with_reducible repeat (first | apply bkD | apply bkd | apply bkA)); exact BK107.out)) : gb107 ≠ gb118)); have n9_ := aM (n8_.out.symm); clear BK106; clear BK107; clear HB; have BK106 := n0_; have BK107 := n1_; have HB := n2_; have BK118 := n3_; have GW118 := n4_; have GE118 := n5_; have NB106_118 := n6_; have NB118_106 := n7_; have NB107_118 := n8_; have NB118_107 := n9_; clear n0_ n1_ n2_ n3_ n4_ n5_ n6_ n7_ n8_ n9_; clear hb hbox hg; have hnb106 := NB118_106.out; have hnc106 := NB106_118.out; have hnb107 := NB118_107.out; have hnc107 := NB107_118.out; obtain ⟨hcz108_0, hcz108_1⟩ := cz2 BK118.out; have hfz108_0 := blk_frozen BK118.out; have hnb109 := NB106_107.out; have hnc109 := NB107_106.out; obtain ⟨hcz110_0, hcz110_1⟩ := cz2 BK106.out; have hfz110_0 := blk_frozen BK106.out) | ((with_reducible refine gate_callee (f := 48) rfl ?_); refine goesL_ (some 50) rfl rfl Try.func48 (by kernel_rfl) rfl #[.agg #[.int .i64 t102, .int .i64 t103]] rfl (by (try simp only [List.map_toArray, List.map_cons, List.map_nil]); first | done | rfl | (simp only [List.length_drop, List.length_take]; rfl)) ?_; (with_reducible refine (impl_ShareOk.calls t102 t103 false _ A53.out).mono ?_); rintro e w111 ⟨rfl, hb⟩; refine ⟨_, rfl, ?_⟩; have n0_ := aM (blk_below (g := gb106) (o := .cells #[.int .i64 t102, .int .i64 t103] 50 (0, 0)) (by (with_reducible repeat (first | apply bkD | apply bkd | apply bkA)); refine blk_far ?_ NB106_118.out _; (with_reducible repeat (first | apply bkD | apply bkd | apply bkA)); refine blk_far ?_ NB106_118.out _; (with_reducible repeat (first | apply bkD | apply bkd | apply bkA)); exact BK106.out) hb); have n1_ := aM (blk_below (g := gb107) (o := .cells #[.int .i64 t104, .int .i64 t105] 50 (0, 0)) (by (with_reducible repeat (first | apply bkD | apply bkd | apply bkA)); refine blk_far ?_ NB107_118.out _; (with_reducible repeat (first | apply bkD | apply bkd | apply bkA)); refine blk_far ?_ NB107_118.out _; (with_reducible repeat (first | apply bkD | apply bkd | apply bkA)); exact BK107.out) hb); have n2_ := aM (blk_below (g := gb118) (o := .cells #[.int .i64 1, .int .i64 (wrap64 (2 + (Int.tmod t117 5)))] 50 (0, 0)) (by (with_reducible repeat (first | apply bkD | apply bkd | apply bkA)); refine blk_put (cs := #[.int .i64 1, .int .i64 0]) ?_ 1 _ rfl; (with_reducible repeat (first | apply bkD | apply bkd | apply bkA)); refine blk_put (cs := #[.int .i64 0, .int .i64 0]) ?_ 0 _ rfl; (with_reducible repeat (first | apply bkD | apply bkd | apply bkA)); exact BK118.out) hb); have n3_ := aM (below_step (by repeat (first | (with_reducible first | exact HB.out | apply beA | apply beD | apply bed | refine beS ?_ GE106.out | refine beS ?_ GE107.out | refine beS ?_ GE118.out) | exact HB.out)) hb); clear BK106; clear BK107; clear BK118; clear HB; have BK106 := n0_; have BK107 := n1_; have BK118 := n2_; have HB := n3_; clear n0_ n1_ n2_ n3_; (try clear hb); (try clear hb2); (try clear hk); (try clear hi)))
        go_ret
        exact ⟨by first | rfl | (simp <;> rfl) | (simp [*] <;> rfl), by repeat (first | (with_reducible first | exact HB.out | apply beA | apply beD | apply bed | refine beS ?_ GE106.out | refine beS ?_ GE107.out | refine beS ?_ GE118.out) | exact HB.out)⟩
      replace c51 := Bool.eq_false_iff.mpr c51
      subst c51
      have H1 : (some true) = some r := by rw [if_neg (show ¬ (false = true) by decide)] at H; exact H
      clear H
      have H := H1
      clear H1
      obtain rfl := Option.some.inj H
      go_wp2
      go_ret
      exact ⟨by first | rfl | (simp <;> rfl) | (simp [*] <;> rfl), by repeat (first | (with_reducible first | exact HB.out | apply beA | apply beD | apply bed | refine beS ?_ GE106.out | refine beS ?_ GE107.out) | exact HB.out)⟩

/-- THE ONE PURE STATEMENT of laws_FnOrder: yours. -/
def laws_FnOrder.Pure : Prop := ∀ (l0 : List Int), l0.length ≤ maxLen → l0.length * 1 ≤ 140737488351232 → (∀ x ∈ l0, (Lit.int .u8 x).wf = true) → ∃ k, laws_FnOrder.f k l0 = some true
theorem laws_FnOrder.walk (P : laws_FnOrder.Pure) (a0 : Option Addr) (len0 cap0 : Nat) (z0 : List Int) (w : World) (w0 : (a0 = none ∧ len0 = 0 ∧ cap0 = 0 ∧ z0 = []) ∨ ∃ x, a0 = some x ∧ len0 ≤ cap0 ∧ cap0 ≤ maxLen ∧ z0.length = cap0 ∧ (∀ i, i < z0.length → w.cell? (x.add i) = some (.int .u8 (z0.getD i 0))) ∧ ∀ n ∈ z0, (Lit.int .u8 n).wf = true) (y0 : len0 * 1 ≤ 140737488351232) :
    Calls Try.prog 8 #[.slice a0 len0 cap0] w fun e w' => e = .returned (.bool true) ∧ Below w.heap.size w w' := by
  obtain ⟨l0, rfl, hr0, hm0, hw0, hc0⟩ := ReadsInt.ofRowC w0
  obtain ⟨k, h⟩ := P l0 hm0 y0 hw0
  refine (laws_FnOrder.calls k _ _ l0 true w (Kd.C_of_reads (d := (0 : Int)) (h1 := fun _ => rfl) hr0) hc0 h).mono ?_
  rintro e w' ⟨rfl, hd⟩
  exact ⟨rfl, hd⟩

end Go.Proofs.Ytnokdjkkgcpbdac.Print
