/- Go functions as plain Lean functions, and that the Go code answers just as these, wherever they answer. Conditions: those of each theorem. Written by a program of this session (wip/patch.py). -/
import Derived.Test.YtnokdjkkgcpbdacPrint0
import Derived.Test.YtnokdjkkgcpbdacPrintImplFairFloor
import Derived.Test.YtnokdjkkgcpbdacPrintLawsBig
import Derived.Test.YtnokdjkkgcpbdacPrintSpecDrawFairFloor
import Derived.Test.YtnokdjkkgcpbdacPrintSpecTaskOk0
namespace Go.Proofs.Ytnokdjkkgcpbdac.Print
open Go.RowKit Go.Proofs.Ytnokdjkkgcpbdac.Base Go.Proofs.YtnokdjkkgcpbdacW.PrintWords Go.Proofs.YtnokdjkkgcpbdacW.PrintLast Go.Proofs.YtnokdjkkgcpbdacW.PrintMore
attribute [local go_sem] max2_int min2_int max_two min_two max_three min_three max_four min_four   -- for this text's walks alone
set_option linter.unusedVariables false
set_option linter.unusedSimpArgs false

/-! ### laws_FnFloor: function 5 -/
mutual
def laws_FnFloor.j0 : Nat → List (S25) → Int → Int → Bool → Option (Bool)
  | 0, _, _, _, _ => none
  | k + 1, x3, x4, x5, x40 => if x40 = true then (some false) else (laws_FnFloor.l0 k x3 x4 x5 x5 0)
def laws_FnFloor.l0 : Nat → List (S25) → Int → Int → Int → Int → Option (Bool)
  | 0, _, _, _, _, _ => none
  | k + 1, x3, x4, x5, x7, x8 => if x8 < (x3.length : Int) then (if 0 ≤ x8 then ((spec_TaskOk.f ((rd_T25 x3 x8).f0) ((rd_T25 x3 x8).f1) ((rd_T25 x3 x8).f2) ((rd_T25 x3 x8).f3) ((rd_T25 x3 x8).f4) ((rd_T25 x3 x8).f5) ((rd_T25 x3 x8).f6) ((rd_T25 x3 x8).f7) ((rd_T25 x3 x8).f8) ((rd_T25 x3 x8).f9) ((rd_T25 x3 x8).f10) ((rd_T25 x3 x8).f11) ((rd_T25 x3 x8).f12) ((rd_T25 x3 x8).f13)).bind fun t111 => (if t111 = true then (laws_FnFloor.j2 k x3 x4 x5 x7 x8 (((rd_T25 x3 x8).f1) != 3)) else (laws_FnFloor.j2 k x3 x4 x5 x7 x8 true))) else (none)) else (if x7 = x5 then (some true) else (some (x5 == x4)))
def laws_FnFloor.j2 : Nat → List (S25) → Int → Int → Int → Int → Bool → Option (Bool)
  | 0, _, _, _, _, _, _ => none
  | k + 1, x3, x4, x5, x7, x8, x61 => if x61 = true then (laws_FnFloor.l0 k x3 x4 x5 x7 (wrap64 (x8 + 1))) else (if 0 ≤ x8 then (if x8 < (x3.length : Int) then (if ((rd_T25 x3 x8).f13) < x7 then (laws_FnFloor.l0 k x3 x4 x5 ((rd_T25 x3 x8).f13) (wrap64 (x8 + 1))) else (laws_FnFloor.l0 k x3 x4 x5 x7 (wrap64 (x8 + 1)))) else (none)) else (none))
end
def laws_FnFloor.f (k : Nat) (l0 : List Int) : Option (Bool) := (laws_big.f l0).bind fun t101 => (if t101 = true then (some true) else ((spec_DrawFairFloor.f k l0).bind fun bt102 => ((impl_FairFloor.f k bt102.1 bt102.2).bind fun t106 => ((impl_FairSpread.f k bt102.1).bind fun t107 => ((spec_FairFloor.f k bt102.1 bt102.2).bind fun t108 => (if t106 = t108 then ((spec_FairSpread.f k bt102.1).bind fun t109 => (if t107 = t109 then (if t106 < bt102.2 then (laws_FnFloor.j0 k bt102.1 bt102.2 t106 true) else (laws_FnFloor.j0 k bt102.1 bt102.2 t106 (decide (t107 < 0)))) else (laws_FnFloor.j0 k bt102.1 bt102.2 t106 true))) else (laws_FnFloor.j0 k bt102.1 bt102.2 t106 true)))))))
theorem laws_FnFloor.mono_l : ∀ k, (∀ y0 y1 y2 y3, LeO (laws_FnFloor.j0 k y0 y1 y2 y3) (laws_FnFloor.j0 (k + 1) y0 y1 y2 y3)) ∧ (∀ y0 y1 y2 y3 y4, LeO (laws_FnFloor.l0 k y0 y1 y2 y3 y4) (laws_FnFloor.l0 (k + 1) y0 y1 y2 y3 y4)) ∧ (∀ y0 y1 y2 y3 y4 y5, LeO (laws_FnFloor.j2 k y0 y1 y2 y3 y4 y5) (laws_FnFloor.j2 (k + 1) y0 y1 y2 y3 y4 y5))
  | 0 => ⟨fun _ _ _ _ r h => by simp [laws_FnFloor.j0] at h, fun _ _ _ _ _ r h => by simp [laws_FnFloor.l0] at h, fun _ _ _ _ _ _ r h => by simp [laws_FnFloor.j2] at h⟩
  | k + 1 => by
    obtain ⟨ih0, ih1, ih2⟩ := laws_FnFloor.mono_l k
    refine ⟨?_, ?_, ?_⟩
    · intro y0 y1 y2 y3
      unfold laws_FnFloor.j0
      repeat' first
      | (with_reducible exact ih0 _ _ _ _)
      | (with_reducible exact ih1 _ _ _ _ _)
      | (with_reducible exact ih2 _ _ _ _ _ _)
      | (with_reducible exact impl_FairFloor.mono _ _ _)
      | (with_reducible exact impl_FairSpread.mono _ _)
      | (with_reducible exact spec_DrawFairFloor.mono _ _)
      | (with_reducible exact spec_FairFloor.mono _ _ _)
      | (with_reducible exact spec_FairSpread.mono _ _)
      | (with_reducible exact LeO.refl _)
      | (with_reducible exact LeO.none _)
      | (with_reducible refine LeO.ite ?_ ?_)
      | (with_reducible refine LeO.bind ?_ (fun _ => ?_))
      | exact ih0 _ _ _ _
      | exact ih1 _ _ _ _ _
      | exact ih2 _ _ _ _ _ _
      | exact impl_FairFloor.mono _ _ _
      | exact impl_FairSpread.mono _ _
      | exact spec_DrawFairFloor.mono _ _
      | exact spec_FairFloor.mono _ _ _
      | exact spec_FairSpread.mono _ _
      | exact LeO.none _
      | refine LeO.ite ?_ ?_
      | refine LeO.bind ?_ (fun _ => ?_)
    · intro y0 y1 y2 y3 y4
      unfold laws_FnFloor.l0
      repeat' first
      | (with_reducible exact ih0 _ _ _ _)
      | (with_reducible exact ih1 _ _ _ _ _)
      | (with_reducible exact ih2 _ _ _ _ _ _)
      | (with_reducible exact impl_FairFloor.mono _ _ _)
      | (with_reducible exact impl_FairSpread.mono _ _)
      | (with_reducible exact spec_DrawFairFloor.mono _ _)
      | (with_reducible exact spec_FairFloor.mono _ _ _)
      | (with_reducible exact spec_FairSpread.mono _ _)
      | (with_reducible exact LeO.refl _)
      | (with_reducible exact LeO.none _)
      | (with_reducible refine LeO.ite ?_ ?_)
      | (with_reducible refine LeO.bind ?_ (fun _ => ?_))
      | exact ih0 _ _ _ _
      | exact ih1 _ _ _ _ _
      | exact ih2 _ _ _ _ _ _
      | exact impl_FairFloor.mono _ _ _
      | exact impl_FairSpread.mono _ _
      | exact spec_DrawFairFloor.mono _ _
      | exact spec_FairFloor.mono _ _ _
      | exact spec_FairSpread.mono _ _
      | exact LeO.none _
      | refine LeO.ite ?_ ?_
      | refine LeO.bind ?_ (fun _ => ?_)
    intro y0 y1 y2 y3 y4 y5
    unfold laws_FnFloor.j2
    repeat' first
    | (with_reducible exact ih0 _ _ _ _)
    | (with_reducible exact ih1 _ _ _ _ _)
    | (with_reducible exact ih2 _ _ _ _ _ _)
    | (with_reducible exact impl_FairFloor.mono _ _ _)
    | (with_reducible exact impl_FairSpread.mono _ _)
    | (with_reducible exact spec_DrawFairFloor.mono _ _)
    | (with_reducible exact spec_FairFloor.mono _ _ _)
    | (with_reducible exact spec_FairSpread.mono _ _)
    | (with_reducible exact LeO.refl _)
    | (with_reducible exact LeO.none _)
    | (with_reducible refine LeO.ite ?_ ?_)
    | (with_reducible refine LeO.bind ?_ (fun _ => ?_))
    | exact ih0 _ _ _ _
    | exact ih1 _ _ _ _ _
    | exact ih2 _ _ _ _ _ _
    | exact impl_FairFloor.mono _ _ _
    | exact impl_FairSpread.mono _ _
    | exact spec_DrawFairFloor.mono _ _
    | exact spec_FairFloor.mono _ _ _
    | exact spec_FairSpread.mono _ _
    | exact LeO.none _
    | refine LeO.ite ?_ ?_
    | refine LeO.bind ?_ (fun _ => ?_)
theorem laws_FnFloor.mono : ∀ a0 k, LeO (laws_FnFloor.f k a0) (laws_FnFloor.f (k + 1) a0) := by
  intro a0 k
  obtain ⟨ih0, ih1, ih2⟩ := laws_FnFloor.mono_l k
  unfold laws_FnFloor.f
  repeat' first
      | (with_reducible exact ih0 _ _ _ _)
      | (with_reducible exact ih1 _ _ _ _ _)
      | (with_reducible exact ih2 _ _ _ _ _ _)
      | (with_reducible exact impl_FairFloor.mono _ _ _)
      | (with_reducible exact impl_FairSpread.mono _ _)
      | (with_reducible exact spec_DrawFairFloor.mono _ _)
      | (with_reducible exact spec_FairFloor.mono _ _ _)
      | (with_reducible exact spec_FairSpread.mono _ _)
      | (with_reducible exact LeO.refl _)
      | (with_reducible exact LeO.none _)
      | (with_reducible refine LeO.ite ?_ ?_)
      | (with_reducible refine LeO.bind ?_ (fun _ => ?_))
      | exact ih0 _ _ _ _
      | exact ih1 _ _ _ _ _
      | exact ih2 _ _ _ _ _ _
      | exact impl_FairFloor.mono _ _ _
      | exact impl_FairSpread.mono _ _
      | exact spec_DrawFairFloor.mono _ _
      | exact spec_FairFloor.mono _ _ _
      | exact spec_FairSpread.mono _ _
      | exact LeO.none _
      | refine LeO.ite ?_ ?_
      | refine LeO.bind ?_ (fun _ => ?_)
set_option maxHeartbeats 8000000 in
set_option maxRecDepth 100000 in
theorem laws_FnFloor.calls (k : Nat) (A0 : Option Addr) (c0 : Nat) (l0 : List Int) (r : Bool) (w : World) (hr0 : Kd.C (Kd.int .u8) w A0 l0.length l0) (hc0 : l0.length ≤ c0) (h : laws_FnFloor.f k l0 = some r) :
    Calls Try.prog 5 #[.slice A0 l0.length c0] w fun e w' => e = .returned (.bool r) ∧ Below w.heap.size w w' := by
  have hu25 := Try.underlying25
  have HR0 := Aside0.mk hr0
  have HC0 := Aside0.mk hc0
  clear hr0 hc0
  have HB := aM (Below.refl w.heap.size w)
  have H : ((laws_big.f l0).bind fun t101 => (if t101 = true then (some true) else ((spec_DrawFairFloor.f k l0).bind fun bt102 => ((impl_FairFloor.f k bt102.1 bt102.2).bind fun t106 => ((impl_FairSpread.f k bt102.1).bind fun t107 => ((spec_FairFloor.f k bt102.1 bt102.2).bind fun t108 => (if t106 = t108 then ((spec_FairSpread.f k bt102.1).bind fun t109 => (if t107 = t109 then (if t106 < bt102.2 then (laws_FnFloor.j0 k bt102.1 bt102.2 t106 true) else (laws_FnFloor.j0 k bt102.1 bt102.2 t106 (decide (t107 < 0)))) else (laws_FnFloor.j0 k bt102.1 bt102.2 t106 true))) else (laws_FnFloor.j0 k bt102.1 bt102.2 t106 true)))))))) = some r := h
  clear h
  replace H := Option.bind_eq_some_iff.mp H
  obtain ⟨t101, A20, H⟩ := H
  replace H : (if t101 = true then (some true) else ((spec_DrawFairFloor.f k l0).bind fun bt102 => ((impl_FairFloor.f k bt102.1 bt102.2).bind fun t106 => ((impl_FairSpread.f k bt102.1).bind fun t107 => ((spec_FairFloor.f k bt102.1 bt102.2).bind fun t108 => (if t106 = t108 then ((spec_FairSpread.f k bt102.1).bind fun t109 => (if t107 = t109 then (if t106 < bt102.2 then (laws_FnFloor.j0 k bt102.1 bt102.2 t106 true) else (laws_FnFloor.j0 k bt102.1 bt102.2 t106 (decide (t107 < 0)))) else (laws_FnFloor.j0 k bt102.1 bt102.2 t106 true))) else (laws_FnFloor.j0 k bt102.1 bt102.2 t106 true))))))) = some r := H
  have A2 := Aside0.mk A20
  clear A20
  by_cases c3 : t101 = true
  · subst c3
    have H1 : (some true) = some r := by rw [if_pos rfl] at H; exact H
    clear H
    have H := H1
    clear H1
    obtain rfl := Option.some.inj H
    go_enter Try.func5, Try.ntmps5
    go_wp2_with (first | ((with_reducible refine gate_callee (f := 15) rfl ?_); refine goesL_ (some 10) rfl rfl Try.func15 (by kernel_rfl) rfl #[.slice A0 l0.length c0] rfl (by (try simp only [List.map_toArray, List.map_cons, List.map_nil]); first | done | rfl | (simp only [List.length_drop, List.length_take]; rfl)) ?_; (with_reducible refine (laws_big.calls _ _ l0 true _ ?side1 ?side2 A2.out).mono ?_); (case side1 => repeat (first | exact HR0.out | (with_reducible refine Kd.C_alloc ?_ _) | (with_reducible refine Kd.C_drewN ?_ _) | (with_reducible refine Kd.C_drew ?_))); (case side2 => exact HC0.out); rintro e w' ⟨rfl, ⟨nd, rfl⟩⟩; refine ⟨_, rfl, ?_⟩))
    go_ret
    exact ⟨by first | rfl | (simp <;> rfl) | (simp [*] <;> rfl), by repeat (first | (with_reducible first | exact HB.out | apply beA | apply beD | apply bed) | exact HB.out)⟩
  replace c3 := Bool.eq_false_iff.mpr c3
  subst c3
  have H1 : ((spec_DrawFairFloor.f k l0).bind fun bt102 => ((impl_FairFloor.f k bt102.1 bt102.2).bind fun t106 => ((impl_FairSpread.f k bt102.1).bind fun t107 => ((spec_FairFloor.f k bt102.1 bt102.2).bind fun t108 => (if t106 = t108 then ((spec_FairSpread.f k bt102.1).bind fun t109 => (if t107 = t109 then (if t106 < bt102.2 then (laws_FnFloor.j0 k bt102.1 bt102.2 t106 true) else (laws_FnFloor.j0 k bt102.1 bt102.2 t106 (decide (t107 < 0)))) else (laws_FnFloor.j0 k bt102.1 bt102.2 t106 true))) else (laws_FnFloor.j0 k bt102.1 bt102.2 t106 true)))))) = some r := by rw [if_neg (show ¬ (false = true) by decide)] at H; exact H
  clear H
  have H := H1
  clear H1
  replace H := Option.bind_eq_some_iff.mp H
  obtain ⟨⟨t102, t103⟩, A40, H⟩ := H
  replace H : ((impl_FairFloor.f k t102 t103).bind fun t106 => ((impl_FairSpread.f k t102).bind fun t107 => ((spec_FairFloor.f k t102 t103).bind fun t108 => (if t106 = t108 then ((spec_FairSpread.f k t102).bind fun t109 => (if t107 = t109 then (if t106 < t103 then (laws_FnFloor.j0 k t102 t103 t106 true) else (laws_FnFloor.j0 k t102 t103 t106 (decide (t107 < 0)))) else (laws_FnFloor.j0 k t102 t103 t106 true))) else (laws_FnFloor.j0 k t102 t103 t106 true))))) = some r := H
  have A4 := Aside0.mk A40
  clear A40
  replace H := Option.bind_eq_some_iff.mp H
  obtain ⟨t106, A50, H⟩ := H
  replace H : ((impl_FairSpread.f k t102).bind fun t107 => ((spec_FairFloor.f k t102 t103).bind fun t108 => (if t106 = t108 then ((spec_FairSpread.f k t102).bind fun t109 => (if t107 = t109 then (if t106 < t103 then (laws_FnFloor.j0 k t102 t103 t106 true) else (laws_FnFloor.j0 k t102 t103 t106 (decide (t107 < 0)))) else (laws_FnFloor.j0 k t102 t103 t106 true))) else (laws_FnFloor.j0 k t102 t103 t106 true)))) = some r := H
  have A5 := Aside0.mk A50
  clear A50
  replace H := Option.bind_eq_some_iff.mp H
  obtain ⟨t107, A60, H⟩ := H
  replace H : ((spec_FairFloor.f k t102 t103).bind fun t108 => (if t106 = t108 then ((spec_FairSpread.f k t102).bind fun t109 => (if t107 = t109 then (if t106 < t103 then (laws_FnFloor.j0 k t102 t103 t106 true) else (laws_FnFloor.j0 k t102 t103 t106 (decide (t107 < 0)))) else (laws_FnFloor.j0 k t102 t103 t106 true))) else (laws_FnFloor.j0 k t102 t103 t106 true))) = some r := H
  have A6 := Aside0.mk A60
  clear A60
  have HC7 := Aside0.mk H
  clear H
  go_enter Try.func5, Try.ntmps5
  go_upto_region 6 with (first | ((with_reducible refine gate_callee (f := 15) rfl ?_); refine goesL_ (some 10) rfl rfl Try.func15 (by kernel_rfl) rfl #[.slice A0 l0.length c0] rfl (by (try simp only [List.map_toArray, List.map_cons, List.map_nil]); first | done | rfl | (simp only [List.length_drop, List.length_take]; rfl)) ?_; (with_reducible refine (laws_big.calls _ _ l0 false _ ?side1 ?side2 A2.out).mono ?_); (case side1 => repeat (first | exact HR0.out | (with_reducible refine Kd.C_alloc ?_ _) | (with_reducible refine Kd.C_drewN ?_ _) | (with_reducible refine Kd.C_drew ?_))); (case side2 => exact HC0.out); rintro e w' ⟨rfl, ⟨nd, rfl⟩⟩; refine ⟨_, rfl, ?_⟩) | ((with_reducible refine gate_callee (f := 33) rfl ?_); refine goesL_ (some 13) rfl rfl Try.func33 (by kernel_rfl) rfl #[.slice A0 l0.length c0] rfl (by (try simp only [List.map_toArray, List.map_cons, List.map_nil]); first | done | rfl | (simp only [List.length_drop, List.length_take]; rfl)) ?_; (with_reducible refine (spec_DrawFairFloor.calls k _ _ l0 t102 t103 _ ?side1 ?side2 A4.out).mono ?_); (case side1 => repeat (first | exact HR0.out | (with_reducible refine Kd.C_alloc ?_ _) | (with_reducible refine Kd.C_drewN ?_ _) | (with_reducible refine Kd.C_drew ?_))); (case side2 => exact HC0.out); rintro e w8 ⟨v104, rfl, ho0, hb⟩; refine ⟨_, rfl, ?_⟩; have n0_ := aM (Kd.R_lower ho0 (below_size (by repeat (first | (with_reducible first | exact HB.out | apply beA | apply beD | apply bed) | exact HB.out)))); have n1_ := aM (below_step (by repeat (first | (with_reducible first | exact HB.out | apply beA | apply beD | apply bed) | exact HB.out)) hb); clear HB; have HO105 := n0_; have HB := n1_; clear n0_ n1_; (try clear hb); (try clear hb2); (try clear hk); (try clear hi); (try clear ho0); obtain ⟨Ao9, co9, eo9⟩ := Kd.R_slice HO105.out; subst eo9) | ((with_reducible refine gate_callee (f := 34) rfl ?_); refine goesL_ (some 18) rfl rfl Try.func34 (by kernel_rfl) rfl #[.slice Ao9 t102.length co9, .int .i64 t103] rfl (by (try simp only [List.map_toArray, List.map_cons, List.map_nil]); first | done | rfl | (simp only [List.length_drop, List.length_take]; rfl)) ?_; (with_reducible refine (impl_FairFloor.calls k _ _ t102 t103 t106 _ ?side1 ?side2 A5.out).mono ?_); (case side1 => repeat (first | exact (Kd.R_reads' HO105.out).2.2 | (with_reducible refine Kd.C_alloc ?_ _) | (with_reducible refine Kd.C_drewN ?_ _) | (with_reducible refine Kd.C_drew ?_))); (case side2 => exact (Kd.R_reads' HO105.out).2.1); rintro e w10 ⟨rfl, hb⟩; refine ⟨_, rfl, ?_⟩; have n0_ := aM (Kd.R_below (by (with_reducible repeat (first | apply Kd.R_alloc | apply Kd.R_drewN | apply Kd.R_drew)); exact HO105.out) hb); have n1_ := aM (below_step (by repeat (first | (with_reducible first | exact HB.out | apply beA | apply beD | apply bed) | exact HB.out)) hb); clear HO105; clear HB; have HO105 := n0_; have HB := n1_; clear n0_ n1_; (try clear hb); (try clear hb2); (try clear hk); (try clear hi)) | ((with_reducible refine gate_callee (f := 35) rfl ?_); refine goesL_ (some 20) rfl rfl Try.func35 (by kernel_rfl) rfl #[.slice Ao9 t102.length co9] rfl (by (try simp only [List.map_toArray, List.map_cons, List.map_nil]); first | done | rfl | (simp only [List.length_drop, List.length_take]; rfl)) ?_; (with_reducible refine (impl_FairSpread.calls k _ _ t102 t107 _ ?side1 ?side2 A6.out).mono ?_); (case side1 => repeat (first | exact (Kd.R_reads' HO105.out).2.2 | (with_reducible refine Kd.C_alloc ?_ _) | (with_reducible refine Kd.C_drewN ?_ _) | (with_reducible refine Kd.C_drew ?_))); (case side2 => exact (Kd.R_reads' HO105.out).2.1); rintro e w11 ⟨rfl, hb⟩; refine ⟨_, rfl, ?_⟩; have n0_ := aM (Kd.R_below (by (with_reducible repeat (first | apply Kd.R_alloc | apply Kd.R_drewN | apply Kd.R_drew)); exact HO105.out) hb); have n1_ := aM (below_step (by repeat (first | (with_reducible first | exact HB.out | apply beA | apply beD | apply bed) | exact HB.out)) hb); clear HO105; clear HB; have HO105 := n0_; have HB := n1_; clear n0_ n1_; (try clear hb); (try clear hb2); (try clear hk); (try clear hi)))
  (try simp only [Act.put, List.setIfInBounds_toArray, List.set_cons_zero, List.set_cons_succ])
  go_cut [40] (fun v40 wc => ∃ (kq : Nat) (x40_6 : Bool), v40 = .bool x40_6 ∧ Aside0 (laws_FnFloor.j0 kq t102 t103 t106 x40_6 = some r) ∧ Aside0 (kq ≤ k) ∧ Aside0 (Kd.R k25 25 wc w.heap.size (fun _ => True) (.slice Ao9 t102.length co9) t102) ∧ Aside0 (Below w.heap.size w wc))
  case first =>
    have H := HC7.out
    clear HC7
    replace H := Option.bind_eq_some_iff.mp H
    obtain ⟨t108, A120, H⟩ := H
    replace H : (if t106 = t108 then ((spec_FairSpread.f k t102).bind fun t109 => (if t107 = t109 then (if t106 < t103 then (laws_FnFloor.j0 k t102 t103 t106 true) else (laws_FnFloor.j0 k t102 t103 t106 (decide (t107 < 0)))) else (laws_FnFloor.j0 k t102 t103 t106 true))) else (laws_FnFloor.j0 k t102 t103 t106 true)) = some r := H
    have A12 := Aside0.mk A120
    clear A120
    by_cases c13 : t106 = t108
    · rw [if_pos c13] at H
      have c13b0 : (t106 == t108) = true := beq_iff_eq.mpr c13
      have c13b1 : (t106 != t108) = false := bne_eq_false_iff_eq.mpr c13
      clear c13
      (first | rw [c13b0] | (simp only [i64_w, i32_w]; rw [c13b0]) | skip)
      replace H := Option.bind_eq_some_iff.mp H
      obtain ⟨t109, A140, H⟩ := H
      replace H : (if t107 = t109 then (if t106 < t103 then (laws_FnFloor.j0 k t102 t103 t106 true) else (laws_FnFloor.j0 k t102 t103 t106 (decide (t107 < 0)))) else (laws_FnFloor.j0 k t102 t103 t106 true)) = some r := H
      have A14 := Aside0.mk A140
      clear A140
      by_cases c15 : t107 = t109
      · rw [if_pos c15] at H
        have c15b0 : (t107 == t109) = true := beq_iff_eq.mpr c15
        have c15b1 : (t107 != t109) = false := bne_eq_false_iff_eq.mpr c15
        clear c15
        by_cases c16 : t106 < t103
        · rw [if_pos c16] at H
          have c16b0 : decide (t106 < t103) = true := decide_eq_true c16
          clear c16
          have H' := Aside0.mk H
          clear H
          go_wp2_with (first | ((with_reducible refine gate_callee (f := 36) rfl ?_); refine goesL_ (some 24) rfl rfl Try.func36 (by kernel_rfl) rfl #[.slice Ao9 t102.length co9, .int .i64 t103] rfl (by (try simp only [List.map_toArray, List.map_cons, List.map_nil]); first | done | rfl | (simp only [List.length_drop, List.length_take]; rfl)) ?_; (with_reducible refine (spec_FairFloor.calls k _ _ t102 t103 t108 _ ?side1 ?side2 A12.out).mono ?_); (case side1 => repeat (first | exact (Kd.R_reads' HO105.out).2.2 | (with_reducible refine Kd.C_alloc ?_ _) | (with_reducible refine Kd.C_drewN ?_ _) | (with_reducible refine Kd.C_drew ?_))); (case side2 => exact (Kd.R_reads' HO105.out).2.1); rintro e w17 ⟨rfl, hb⟩; refine ⟨_, rfl, ?_⟩; have n0_ := aM (Kd.R_below (by (with_reducible repeat (first | apply Kd.R_alloc | apply Kd.R_drewN | apply Kd.R_drew)); exact HO105.out) hb); have n1_ := aM (below_step (by repeat (first | (with_reducible first | exact HB.out | apply beA | apply beD | apply bed) | exact HB.out)) hb); clear HO105; clear HB; have HO105 := n0_; have HB := n1_; clear n0_ n1_; (try clear hb); (try clear hb2); (try clear hk); (try clear hi)) | (go_at_call 37; (with_reducible refine (spec_FairSpread.calls k _ _ t102 t109 _ ?side1 ?side2 A14.out).mono ?_); (case side1 => repeat (first | exact (Kd.R_reads' HO105.out).2.2 | (with_reducible refine Kd.C_alloc ?_ _) | (with_reducible refine Kd.C_drewN ?_ _) | (with_reducible refine Kd.C_drew ?_))); (case side2 => exact (Kd.R_reads' HO105.out).2.1); rintro e w18 ⟨rfl, hb⟩; have n0_ := aM (Kd.R_below (by (with_reducible repeat (first | apply Kd.R_alloc | apply Kd.R_drewN | apply Kd.R_drew)); exact HO105.out) hb); have n1_ := aM (below_step (by repeat (first | (with_reducible first | exact HB.out | apply beA | apply beD | apply bed) | exact HB.out)) hb); clear HO105; clear HB; have HO105 := n0_; have HB := n1_; clear n0_ n1_; (try clear hb); (try clear hb2); (try clear hk); (try clear hi)))
          go_meet
          case rel => exact ⟨_, (true), (by first | rfl | (simp; done) | (simp [*]; done)), H', ⟨by first | omega | exact Nat.le_refl _⟩, ⟨by (with_reducible repeat (first | apply Kd.R_alloc | apply Kd.R_drewN | apply Kd.R_drew)); exact HO105.out⟩, ⟨by repeat (first | (with_reducible first | exact HB.out | apply beA | apply beD | apply bed) | exact HB.out)⟩⟩
        rw [if_neg c16] at H
        have c16b0 : decide (t106 < t103) = false := decide_eq_false c16
        clear c16
        have H' := Aside0.mk H
        clear H
        go_wp2_with (first | ((with_reducible refine gate_callee (f := 36) rfl ?_); refine goesL_ (some 24) rfl rfl Try.func36 (by kernel_rfl) rfl #[.slice Ao9 t102.length co9, .int .i64 t103] rfl (by (try simp only [List.map_toArray, List.map_cons, List.map_nil]); first | done | rfl | (simp only [List.length_drop, List.length_take]; rfl)) ?_; (with_reducible refine (spec_FairFloor.calls k _ _ t102 t103 t108 _ ?side1 ?side2 A12.out).mono ?_); (case side1 => repeat (first | exact (Kd.R_reads' HO105.out).2.2 | (with_reducible refine Kd.C_alloc ?_ _) | (with_reducible refine Kd.C_drewN ?_ _) | (with_reducible refine Kd.C_drew ?_))); (case side2 => exact (Kd.R_reads' HO105.out).2.1); rintro e w19 ⟨rfl, hb⟩; refine ⟨_, rfl, ?_⟩; have n0_ := aM (Kd.R_below (by (with_reducible repeat (first | apply Kd.R_alloc | apply Kd.R_drewN | apply Kd.R_drew)); exact HO105.out) hb); have n1_ := aM (below_step (by repeat (first | (with_reducible first | exact HB.out | apply beA | apply beD | apply bed) | exact HB.out)) hb); clear HO105; clear HB; have HO105 := n0_; have HB := n1_; clear n0_ n1_; (try clear hb); (try clear hb2); (try clear hk); (try clear hi)) | (go_at_call 37; (with_reducible refine (spec_FairSpread.calls k _ _ t102 t109 _ ?side1 ?side2 A14.out).mono ?_); (case side1 => repeat (first | exact (Kd.R_reads' HO105.out).2.2 | (with_reducible refine Kd.C_alloc ?_ _) | (with_reducible refine Kd.C_drewN ?_ _) | (with_reducible refine Kd.C_drew ?_))); (case side2 => exact (Kd.R_reads' HO105.out).2.1); rintro e w20 ⟨rfl, hb⟩; have n0_ := aM (Kd.R_below (by (with_reducible repeat (first | apply Kd.R_alloc | apply Kd.R_drewN | apply Kd.R_drew)); exact HO105.out) hb); have n1_ := aM (below_step (by repeat (first | (with_reducible first | exact HB.out | apply beA | apply beD | apply bed) | exact HB.out)) hb); clear HO105; clear HB; have HO105 := n0_; have HB := n1_; clear n0_ n1_; (try clear hb); (try clear hb2); (try clear hk); (try clear hi)))
        go_meet
        case rel => exact ⟨_, (decide (t107 < 0)), (by first | rfl | (simp; done) | (simp [*]; done)), H', ⟨by first | omega | exact Nat.le_refl _⟩, ⟨by (with_reducible repeat (first | apply Kd.R_alloc | apply Kd.R_drewN | apply Kd.R_drew)); exact HO105.out⟩, ⟨by repeat (first | (with_reducible first | exact HB.out | apply beA | apply beD | apply bed) | exact HB.out)⟩⟩
      rw [if_neg c15] at H
      have c15b0 : (t107 == t109) = false := beq_eq_false_iff_ne.mpr c15
      have c15b1 : (t107 != t109) = true := bne_iff_ne.mpr c15
      have H' := Aside0.mk H
      clear H
      go_wp2_with (first | ((with_reducible refine gate_callee (f := 36) rfl ?_); refine goesL_ (some 24) rfl rfl Try.func36 (by kernel_rfl) rfl #[.slice Ao9 t102.length co9, .int .i64 t103] rfl (by (try simp only [List.map_toArray, List.map_cons, List.map_nil]); first | done | rfl | (simp only [List.length_drop, List.length_take]; rfl)) ?_; (with_reducible refine (spec_FairFloor.calls k _ _ t102 t103 t108 _ ?side1 ?side2 A12.out).mono ?_); (case side1 => repeat (first | exact (Kd.R_reads' HO105.out).2.2 | (with_reducible refine Kd.C_alloc ?_ _) | (with_reducible refine Kd.C_drewN ?_ _) | (with_reducible refine Kd.C_drew ?_))); (case side2 => exact (Kd.R_reads' HO105.out).2.1); rintro e w21 ⟨rfl, hb⟩; refine ⟨_, rfl, ?_⟩; have n0_ := aM (Kd.R_below (by (with_reducible repeat (first | apply Kd.R_alloc | apply Kd.R_drewN | apply Kd.R_drew)); exact HO105.out) hb); have n1_ := aM (below_step (by repeat (first | (with_reducible first | exact HB.out | apply beA | apply beD | apply bed) | exact HB.out)) hb); clear HO105; clear HB; have HO105 := n0_; have HB := n1_; clear n0_ n1_; (try clear hb); (try clear hb2); (try clear hk); (try clear hi)) | (go_at_call 37; (with_reducible refine (spec_FairSpread.calls k _ _ t102 t109 _ ?side1 ?side2 A14.out).mono ?_); (case side1 => repeat (first | exact (Kd.R_reads' HO105.out).2.2 | (with_reducible refine Kd.C_alloc ?_ _) | (with_reducible refine Kd.C_drewN ?_ _) | (with_reducible refine Kd.C_drew ?_))); (case side2 => exact (Kd.R_reads' HO105.out).2.1); rintro e w22 ⟨rfl, hb⟩; have n0_ := aM (Kd.R_below (by (with_reducible repeat (first | apply Kd.R_alloc | apply Kd.R_drewN | apply Kd.R_drew)); exact HO105.out) hb); have n1_ := aM (below_step (by repeat (first | (with_reducible first | exact HB.out | apply beA | apply beD | apply bed) | exact HB.out)) hb); clear HO105; clear HB; have HO105 := n0_; have HB := n1_; clear n0_ n1_; (try clear hb); (try clear hb2); (try clear hk); (try clear hi)))
      go_meet
      case rel => exact ⟨_, (true), (by first | rfl | (simp; done) | (simp [*]; done)), H', ⟨by first | omega | exact Nat.le_refl _⟩, ⟨by (with_reducible repeat (first | apply Kd.R_alloc | apply Kd.R_drewN | apply Kd.R_drew)); exact HO105.out⟩, ⟨by repeat (first | (with_reducible first | exact HB.out | apply beA | apply beD | apply bed) | exact HB.out)⟩⟩
    rw [if_neg c13] at H
    have c13b0 : (t106 == t108) = false := beq_eq_false_iff_ne.mpr c13
    have c13b1 : (t106 != t108) = true := bne_iff_ne.mpr c13
    (first | rw [c13b0] | (simp only [i64_w, i32_w]; rw [c13b0]) | skip)
    have H' := Aside0.mk H
    clear H
    go_wp2_with (first | ((with_reducible refine gate_callee (f := 36) rfl ?_); refine goesL_ (some 24) rfl rfl Try.func36 (by kernel_rfl) rfl #[.slice Ao9 t102.length co9, .int .i64 t103] rfl (by (try simp only [List.map_toArray, List.map_cons, List.map_nil]); first | done | rfl | (simp only [List.length_drop, List.length_take]; rfl)) ?_; (with_reducible refine (spec_FairFloor.calls k _ _ t102 t103 t108 _ ?side1 ?side2 A12.out).mono ?_); (case side1 => repeat (first | exact (Kd.R_reads' HO105.out).2.2 | (with_reducible refine Kd.C_alloc ?_ _) | (with_reducible refine Kd.C_drewN ?_ _) | (with_reducible refine Kd.C_drew ?_))); (case side2 => exact (Kd.R_reads' HO105.out).2.1); rintro e w23 ⟨rfl, hb⟩; refine ⟨_, rfl, ?_⟩; have n0_ := aM (Kd.R_below (by (with_reducible repeat (first | apply Kd.R_alloc | apply Kd.R_drewN | apply Kd.R_drew)); exact HO105.out) hb); have n1_ := aM (below_step (by repeat (first | (with_reducible first | exact HB.out | apply beA | apply beD | apply bed) | exact HB.out)) hb); clear HO105; clear HB; have HO105 := n0_; have HB := n1_; clear n0_ n1_; (try clear hb); (try clear hb2); (try clear hk); (try clear hi)))
    go_meet
    case rel => exact ⟨_, (true), (by first | rfl | (simp; done) | (simp [*]; done)), H', ⟨by first | omega | exact Nat.le_refl _⟩, ⟨by (with_reducible repeat (first | apply Kd.R_alloc | apply Kd.R_drewN | apply Kd.R_drew)); exact HO105.out⟩, ⟨by repeat (first | (with_reducible first | exact HB.out | apply beA | apply beD | apply bed) | exact HB.out)⟩⟩
  case rest =>
    clear HC7
    try clear c1
    try clear p2
    try clear c3
    try clear c5
    try clear c13
    try clear c13b0
    try clear c13b1
    try clear c15
    try clear c15b0
    try clear c15b1
    try clear c16
    try clear c16b0
    obtain ⟨kq, x40_6, rfl, HA, HJ6, HO_3, HB⟩ := hcut
    cases kq with
    | zero => exact absurd HA.out (by simp [laws_FnFloor.j0])
    | succ kj6 =>
      have H := HA.out
      clear HA
      simp only [laws_FnFloor.j0] at H
      by_cases c24 : x40_6 = true
      · subst c24
        have H1 : (some false) = some r := by rw [if_pos rfl] at H; exact H
        clear H
        have H := H1
        clear H1
        obtain rfl := Option.some.inj H
        go_wp2
        go_ret
        exact ⟨by first | rfl | (simp <;> rfl) | (simp [*] <;> rfl), by repeat (first | (with_reducible first | exact HB.out | apply beA | apply beD | apply bed) | exact HB.out)⟩
      replace c24 := Bool.eq_false_iff.mpr c24
      subst c24
      have H1 : (laws_FnFloor.l0 kj6 t102 t103 t106 t106 0) = some r := by rw [if_neg (show ¬ (false = true) by decide)] at H; exact H
      clear H
      have H := H1
      clear H1
      have H' := Aside0.mk H
      clear H
      go_wp2
      go_loopg [7, 8] kj6 (fun kq v7 v8 w' => ∃ (x7_2 : Int) (x8_2 : Int), v7 = .int .i64 x7_2 ∧ v8 = .int .i64 x8_2 ∧ Aside0 (laws_FnFloor.l0 kq t102 t103 t106 x7_2 x8_2 = some r) ∧ Aside0 (kq ≤ kj6) ∧ Aside0 (Kd.R k25 25 w' w.heap.size (fun _ => True) (.slice Ao9 t102.length co9) t102) ∧ Aside0 (Below w.heap.size w w'))
      case atStart => exact ⟨(t106), (0), (by first | rfl | (simp; done) | (simp [*]; done)), (by first | rfl | (simp; done) | (simp [*]; done)), H', ⟨Nat.le_refl _⟩, ⟨by (with_reducible repeat (first | apply Kd.R_alloc | apply Kd.R_drewN | apply Kd.R_drew)); exact HO_3.out⟩, ⟨by repeat (first | (with_reducible first | exact HB.out | apply beA | apply beD | apply bed) | exact HB.out)⟩⟩
      case round =>
        clear H'
        try clear c1
        try clear c2
        try clear p2
        try clear c3
        try clear c5
        try clear c13
        try clear c13b0
        try clear c13b1
        try clear c15
        try clear c15b0
        try clear c15b1
        try clear c16
        try clear c16b0
        try clear c24
        try clear p2
        obtain ⟨x7_2, x8_2, rfl, rfl, HA, HK2, HO_3, HB⟩ := hrel
        cases gk with
        | zero => exact absurd HA.out (by simp [laws_FnFloor.l0])
        | succ k2 =>
          have H := HA.out
          clear HA
          simp only [laws_FnFloor.l0] at H
          by_cases c25 : x8_2 < (t102.length : Int)
          · rw [if_pos c25] at H
            have c25b0 : decide (x8_2 < (t102.length : Int)) = true := decide_eq_true c25
            clear c25
            have HC26 := Aside0.mk H
            clear H
            go_upto_region 12 with (fail)
            go_cut [61] (fun v61 wc => ∃ (kq : Nat) (x61_25 : Bool), v61 = .bool x61_25 ∧ Aside0 (laws_FnFloor.j2 kq t102 t103 t106 x7_2 x8_2 x61_25 = some r) ∧ Aside0 (kq ≤ k2) ∧ Aside0 (Kd.R k25 25 wc w.heap.size (fun _ => True) (.slice Ao9 t102.length co9) t102) ∧ Aside0 (Below w.heap.size w wc))
            case first =>
              have H := HC26.out
              clear HC26
              by_cases c27 : 0 ≤ x8_2
              · rw [if_pos c27] at H
                have c27b0 : decide (0 ≤ x8_2) = true := decide_eq_true c27
                clear c27
                (first | rw [c27b0] | (simp only [i64_w, i32_w]; rw [c27b0]) | skip)
                replace H := Option.bind_eq_some_iff.mp H
                obtain ⟨t111, A280, H⟩ := H
                replace H : (if t111 = true then (laws_FnFloor.j2 k2 t102 t103 t106 x7_2 x8_2 (((rd_T25 t102 x8_2).f1) != 3)) else (laws_FnFloor.j2 k2 t102 t103 t106 x7_2 x8_2 true)) = some r := H
                have A28 := Aside0.mk A280
                clear A280
                by_cases c29 : t111 = true
                · subst c29
                  have H1 : (laws_FnFloor.j2 k2 t102 t103 t106 x7_2 x8_2 (((rd_T25 t102 x8_2).f1) != 3)) = some r := by rw [if_pos rfl] at H; exact H
                  clear H
                  have H := H1
                  clear H1
                  have H' := Aside0.mk H
                  clear H
                  have p110 : 0 ≤ (x8_2 : Int) := of_decide_eq_true (by first | (with_reducible assumption) | assumption)
                  have q110 : x8_2 < (t102.length : Int) := of_decide_eq_true (by first | (with_reducible assumption) | assumption)
                  obtain ⟨ad110, e110, hx110_0, hx110_1, hx110_2, hx110_3, hx110_4, hx110_5, hx110_6, hx110_7, hx110_8, hx110_9, hx110_10, hx110_11, hx110_12, hx110_13⟩ := at_T25 (Kd.R_reads' HO_3.out).2.2 x8_2 p110 q110
                  cases e110
                  replace p110 := eq_true p110
                  replace q110 := eq_true q110
                  go_wp2_with (first | ((with_reducible refine gate_callee (f := 31) rfl ?_); refine goesL_ (some 52) rfl rfl Try.func31 (by kernel_rfl) rfl #[.agg #[.int .i64 ((rd_T25 t102 x8_2).f0), .int .i64 ((rd_T25 t102 x8_2).f1), .int .i64 ((rd_T25 t102 x8_2).f2), .int .i64 ((rd_T25 t102 x8_2).f3), .bool ((rd_T25 t102 x8_2).f4), .int .i64 ((rd_T25 t102 x8_2).f5), .int .i64 ((rd_T25 t102 x8_2).f6), .int .i64 ((rd_T25 t102 x8_2).f7), .int .i64 ((rd_T25 t102 x8_2).f8), .int .i64 ((rd_T25 t102 x8_2).f9), .int .i64 ((rd_T25 t102 x8_2).f10), .int .i64 ((rd_T25 t102 x8_2).f11), .int .i64 ((rd_T25 t102 x8_2).f12), .int .i64 ((rd_T25 t102 x8_2).f13)]] rfl (by (try simp only [List.map_toArray, List.map_cons, List.map_nil]); first | done | rfl | (simp only [List.length_drop, List.length_take]; rfl)) ?_; (with_reducible refine (spec_TaskOk.calls ((rd_T25 t102 x8_2).f0) ((rd_T25 t102 x8_2).f1) ((rd_T25 t102 x8_2).f2) ((rd_T25 t102 x8_2).f3) ((rd_T25 t102 x8_2).f4) ((rd_T25 t102 x8_2).f5) ((rd_T25 t102 x8_2).f6) ((rd_T25 t102 x8_2).f7) ((rd_T25 t102 x8_2).f8) ((rd_T25 t102 x8_2).f9) ((rd_T25 t102 x8_2).f10) ((rd_T25 t102 x8_2).f11) ((rd_T25 t102 x8_2).f12) ((rd_T25 t102 x8_2).f13) true _ A28.out).mono ?_); rintro e w30 ⟨rfl, hb⟩; refine ⟨_, rfl, ?_⟩; have n0_ := aM (Kd.R_below (by (with_reducible repeat (first | apply Kd.R_alloc | apply Kd.R_drewN | apply Kd.R_drew)); exact HO_3.out) hb); have n1_ := aM (below_step (by repeat (first | (with_reducible first | exact HB.out | apply beA | apply beD | apply bed) | exact HB.out)) hb); clear HO_3; clear HB; have HO_3 := n0_; have HB := n1_; clear n0_ n1_; (try clear hb); (try clear hb2); (try clear hk); (try clear hi); have p112 : 0 ≤ (x8_2 : Int) := of_decide_eq_true (by first | (with_reducible assumption) | assumption); have q112 : x8_2 < (t102.length : Int) := of_decide_eq_true (by first | (with_reducible assumption) | assumption); obtain ⟨ad112, e112, hx112_0, hx112_1, hx112_2, hx112_3, hx112_4, hx112_5, hx112_6, hx112_7, hx112_8, hx112_9, hx112_10, hx112_11, hx112_12, hx112_13⟩ := at_T25 (Kd.R_reads' HO_3.out).2.2 x8_2 p112 q112; obtain rfl : ad110 = ad112 := (by injection e112); replace p112 := eq_true p112; replace q112 := eq_true q112))
                  go_meet
                  case rel => exact ⟨_, ((((rd_T25 t102 x8_2).f1) != 3)), (by first | rfl | (simp; done) | (simp [*]; done)), H', ⟨by have := HJ6.out; have := HK2.out; first | omega | exact Nat.le_refl _⟩, ⟨by (with_reducible repeat (first | apply Kd.R_alloc | apply Kd.R_drewN | apply Kd.R_drew)); exact HO_3.out⟩, ⟨by repeat (first | (with_reducible first | exact HB.out | apply beA | apply beD | apply bed) | exact HB.out)⟩⟩
                replace c29 := Bool.eq_false_iff.mpr c29
                subst c29
                have H1 : (laws_FnFloor.j2 k2 t102 t103 t106 x7_2 x8_2 true) = some r := by rw [if_neg (show ¬ (false = true) by decide)] at H; exact H
                clear H
                have H := H1
                clear H1
                have H' := Aside0.mk H
                clear H
                have p110 : 0 ≤ (x8_2 : Int) := of_decide_eq_true (by first | (with_reducible assumption) | assumption)
                have q110 : x8_2 < (t102.length : Int) := of_decide_eq_true (by first | (with_reducible assumption) | assumption)
                obtain ⟨ad110, e110, hx110_0, hx110_1, hx110_2, hx110_3, hx110_4, hx110_5, hx110_6, hx110_7, hx110_8, hx110_9, hx110_10, hx110_11, hx110_12, hx110_13⟩ := at_T25 (Kd.R_reads' HO_3.out).2.2 x8_2 p110 q110
                cases e110
                replace p110 := eq_true p110
                replace q110 := eq_true q110
                go_wp2_with (first | ((with_reducible refine gate_callee (f := 31) rfl ?_); refine goesL_ (some 52) rfl rfl Try.func31 (by kernel_rfl) rfl #[.agg #[.int .i64 ((rd_T25 t102 x8_2).f0), .int .i64 ((rd_T25 t102 x8_2).f1), .int .i64 ((rd_T25 t102 x8_2).f2), .int .i64 ((rd_T25 t102 x8_2).f3), .bool ((rd_T25 t102 x8_2).f4), .int .i64 ((rd_T25 t102 x8_2).f5), .int .i64 ((rd_T25 t102 x8_2).f6), .int .i64 ((rd_T25 t102 x8_2).f7), .int .i64 ((rd_T25 t102 x8_2).f8), .int .i64 ((rd_T25 t102 x8_2).f9), .int .i64 ((rd_T25 t102 x8_2).f10), .int .i64 ((rd_T25 t102 x8_2).f11), .int .i64 ((rd_T25 t102 x8_2).f12), .int .i64 ((rd_T25 t102 x8_2).f13)]] rfl (by (try simp only [List.map_toArray, List.map_cons, List.map_nil]); first | done | rfl | (simp only [List.length_drop, List.length_take]; rfl)) ?_; (with_reducible refine (spec_TaskOk.calls ((rd_T25 t102 x8_2).f0) ((rd_T25 t102 x8_2).f1) ((rd_T25 t102 x8_2).f2) ((rd_T25 t102 x8_2).f3) ((rd_T25 t102 x8_2).f4) ((rd_T25 t102 x8_2).f5) ((rd_T25 t102 x8_2).f6) ((rd_T25 t102 x8_2).f7) ((rd_T25 t102 x8_2).f8) ((rd_T25 t102 x8_2).f9) ((rd_T25 t102 x8_2).f10) ((rd_T25 t102 x8_2).f11) ((rd_T25 t102 x8_2).f12) ((rd_T25 t102 x8_2).f13) false _ A28.out).mono ?_); rintro e w31 ⟨rfl, hb⟩; refine ⟨_, rfl, ?_⟩; have n0_ := aM (Kd.R_below (by (with_reducible repeat (first | apply Kd.R_alloc | apply Kd.R_drewN | apply Kd.R_drew)); exact HO_3.out) hb); have n1_ := aM (below_step (by repeat (first | (with_reducible first | exact HB.out | apply beA | apply beD | apply bed) | exact HB.out)) hb); clear HO_3; clear HB; have HO_3 := n0_; have HB := n1_; clear n0_ n1_; (try clear hb); (try clear hb2); (try clear hk); (try clear hi)))
                go_meet
                case rel => exact ⟨_, (true), (by first | rfl | (simp; done) | (simp [*]; done)), H', ⟨by have := HJ6.out; have := HK2.out; first | omega | exact Nat.le_refl _⟩, ⟨by (with_reducible repeat (first | apply Kd.R_alloc | apply Kd.R_drewN | apply Kd.R_drew)); exact HO_3.out⟩, ⟨by repeat (first | (with_reducible first | exact HB.out | apply beA | apply beD | apply bed) | exact HB.out)⟩⟩
              rw [if_neg c27] at H
              exact absurd H (by simp)
            case rest =>
              clear HC26
              try clear c1
              try clear p1
              try clear q1
              try clear hx1
              try clear c2
              try clear p2
              try clear c3
              try clear c5
              try clear p11
              try clear q11
              try clear hx11
              try clear c13
              try clear c13b0
              try clear c13b1
              try clear c15
              try clear c15b0
              try clear c15b1
              try clear c16
              try clear c16b0
              try clear c24
              try clear c25
              try clear c25b0
              try clear c27
              try clear c27b0
              try clear c29
              try clear c31
              try clear hx110_0
              try clear hx110_1
              try clear hx110_10
              try clear hx110_11
              try clear hx110_12
              try clear hx110_13
              try clear hx110_2
              try clear hx110_3
              try clear hx110_4
              try clear hx110_5
              try clear hx110_6
              try clear hx110_7
              try clear hx110_8
              try clear hx110_9
              try clear hx112_0
              try clear hx112_1
              try clear hx112_10
              try clear hx112_11
              try clear hx112_12
              try clear hx112_13
              try clear hx112_2
              try clear hx112_3
              try clear hx112_4
              try clear hx112_5
              try clear hx112_6
              try clear hx112_7
              try clear hx112_8
              try clear hx112_9
              try clear p110
              try clear p112
              try clear p2
              try clear q110
              try clear q112
              obtain ⟨kq, x61_25, rfl, HA, HJ25, HO_3, HB⟩ := hcut
              cases kq with
              | zero => exact absurd HA.out (by simp [laws_FnFloor.j2])
              | succ kj25 =>
                have H := HA.out
                clear HA
                simp only [laws_FnFloor.j2] at H
                by_cases c32 : x61_25 = true
                · subst c32
                  have H1 : (laws_FnFloor.l0 kj25 t102 t103 t106 x7_2 (wrap64 (x8_2 + 1))) = some r := by rw [if_pos rfl] at H; exact H
                  clear H
                  have H := H1
                  clear H1
                  have H' := Aside0.mk H
                  clear H
                  go_wp2
                  go_roundg kj25
                  case measure => have := HJ6.out; have := HK2.out; have := HJ25.out; omega
                  case rel => exact ⟨(x7_2), (wrap64 (x8_2 + 1)), (by first | rfl | (simp; done) | (simp [*]; done)), (by first | rfl | (simp; done) | (simp [*]; done)), H', ⟨by have := HJ6.out; have := HK2.out; have := HJ25.out; omega⟩, ⟨by (with_reducible repeat (first | apply Kd.R_alloc | apply Kd.R_drewN | apply Kd.R_drew)); exact HO_3.out⟩, ⟨by repeat (first | (with_reducible first | exact HB.out | apply beA | apply beD | apply bed) | exact HB.out)⟩⟩
                replace c32 := Bool.eq_false_iff.mpr c32
                subst c32
                have H1 : (if 0 ≤ x8_2 then (if x8_2 < (t102.length : Int) then (if ((rd_T25 t102 x8_2).f13) < x7_2 then (laws_FnFloor.l0 kj25 t102 t103 t106 ((rd_T25 t102 x8_2).f13) (wrap64 (x8_2 + 1))) else (laws_FnFloor.l0 kj25 t102 t103 t106 x7_2 (wrap64 (x8_2 + 1)))) else (none)) else (none)) = some r := by rw [if_neg (show ¬ (false = true) by decide)] at H; exact H
                clear H
                have H := H1
                clear H1
                by_cases c33 : 0 ≤ x8_2
                · rw [if_pos c33] at H
                  have c33b0 : decide (0 ≤ x8_2) = true := decide_eq_true c33
                  clear c33
                  by_cases c34 : x8_2 < (t102.length : Int)
                  · rw [if_pos c34] at H
                    have c34b0 : decide (x8_2 < (t102.length : Int)) = true := decide_eq_true c34
                    clear c34
                    by_cases c35 : ((rd_T25 t102 x8_2).f13) < x7_2
                    · rw [if_pos c35] at H
                      have c35b0 : decide (((rd_T25 t102 x8_2).f13) < x7_2) = true := decide_eq_true c35
                      clear c35
                      have H' := Aside0.mk H
                      clear H
                      have p113 : 0 ≤ (x8_2 : Int) := of_decide_eq_true (by first | (with_reducible assumption) | assumption)
                      have q113 : x8_2 < (t102.length : Int) := of_decide_eq_true (by first | (with_reducible assumption) | assumption)
                      obtain ⟨ad113, e113, hx113_0, hx113_1, hx113_2, hx113_3, hx113_4, hx113_5, hx113_6, hx113_7, hx113_8, hx113_9, hx113_10, hx113_11, hx113_12, hx113_13⟩ := at_T25 (Kd.R_reads' HO_3.out).2.2 x8_2 p113 q113
                      cases e113
                      replace p113 := eq_true p113
                      replace q113 := eq_true q113
                      have p114 : 0 ≤ (x8_2 : Int) := of_decide_eq_true (by first | (with_reducible assumption) | assumption)
                      have q114 : x8_2 < (t102.length : Int) := of_decide_eq_true (by first | (with_reducible assumption) | assumption)
                      obtain ⟨ad114, e114, hx114_0, hx114_1, hx114_2, hx114_3, hx114_4, hx114_5, hx114_6, hx114_7, hx114_8, hx114_9, hx114_10, hx114_11, hx114_12, hx114_13⟩ := at_T25 (Kd.R_reads' HO_3.out).2.2 x8_2 p114 q114
                      obtain rfl : ad113 = ad114 := (by injection e114)
                      replace p114 := eq_true p114
                      replace q114 := eq_true q114
                      go_wp2
                      go_roundg kj25
                      case measure => have := HJ6.out; have := HK2.out; have := HJ25.out; omega
                      case rel => exact ⟨((rd_T25 t102 x8_2).f13), (wrap64 (x8_2 + 1)), (by first | rfl | (simp; done) | (simp [*]; done)), (by first | rfl | (simp; done) | (simp [*]; done)), H', ⟨by have := HJ6.out; have := HK2.out; have := HJ25.out; omega⟩, ⟨by (with_reducible repeat (first | apply Kd.R_alloc | apply Kd.R_drewN | apply Kd.R_drew)); exact HO_3.out⟩, ⟨by repeat (first | (with_reducible first | exact HB.out | apply beA | apply beD | apply bed) | exact HB.out)⟩⟩
                    rw [if_neg c35] at H
                    have c35b0 : decide (((rd_T25 t102 x8_2).f13) < x7_2) = false := decide_eq_false c35
                    clear c35
                    have H' := Aside0.mk H
                    clear H
                    have p113 : 0 ≤ (x8_2 : Int) := of_decide_eq_true (by first | (with_reducible assumption) | assumption)
                    have q113 : x8_2 < (t102.length : Int) := of_decide_eq_true (by first | (with_reducible assumption) | assumption)
                    obtain ⟨ad113, e113, hx113_0, hx113_1, hx113_2, hx113_3, hx113_4, hx113_5, hx113_6, hx113_7, hx113_8, hx113_9, hx113_10, hx113_11, hx113_12, hx113_13⟩ := at_T25 (Kd.R_reads' HO_3.out).2.2 x8_2 p113 q113
                    cases e113
                    replace p113 := eq_true p113
                    replace q113 := eq_true q113
                    go_wp2
                    go_roundg kj25
                    case measure => have := HJ6.out; have := HK2.out; have := HJ25.out; omega
                    case rel => exact ⟨(x7_2), (wrap64 (x8_2 + 1)), (by first | rfl | (simp; done) | (simp [*]; done)), (by first | rfl | (simp; done) | (simp [*]; done)), H', ⟨by have := HJ6.out; have := HK2.out; have := HJ25.out; omega⟩, ⟨by (with_reducible repeat (first | apply Kd.R_alloc | apply Kd.R_drewN | apply Kd.R_drew)); exact HO_3.out⟩, ⟨by repeat (first | (with_reducible first | exact HB.out | apply beA | apply beD | apply bed) | exact HB.out)⟩⟩
                  rw [if_neg c34] at H
                  exact absurd H (by simp)
                rw [if_neg c33] at H
                exact absurd H (by simp)
          rw [if_neg c25] at H
          have c25b0 : decide (x8_2 < (t102.length : Int)) = false := decide_eq_false c25
          clear c25
          by_cases c36 : x7_2 = t106
          · rw [if_pos c36] at H
            have c36b0 : (x7_2 == t106) = true := beq_iff_eq.mpr c36
            have c36b1 : (x7_2 != t106) = false := bne_eq_false_iff_eq.mpr c36
            clear c36
            obtain rfl := Option.some.inj H
            go_wp2
            go_ret
            exact ⟨by first | rfl | (simp <;> rfl) | (simp [*] <;> rfl), by repeat (first | (with_reducible first | exact HB.out | apply beA | apply beD | apply bed) | exact HB.out)⟩
          rw [if_neg c36] at H
          have c36b0 : (x7_2 == t106) = false := beq_eq_false_iff_ne.mpr c36
          have c36b1 : (x7_2 != t106) = true := bne_iff_ne.mpr c36
          obtain rfl := Option.some.inj H
          go_wp2
          go_ret
          exact ⟨by first | rfl | (simp <;> rfl) | (simp [*] <;> rfl), by repeat (first | (with_reducible first | exact HB.out | apply beA | apply beD | apply bed) | exact HB.out)⟩

/-- THE ONE PURE STATEMENT of laws_FnFloor: yours. -/
def laws_FnFloor.Pure : Prop := ∀ (l0 : List Int), l0.length ≤ maxLen → l0.length * 1 ≤ 140737488351232 → (∀ x ∈ l0, (Lit.int .u8 x).wf = true) → ∃ k, laws_FnFloor.f k l0 = some true
theorem laws_FnFloor.walk (P : laws_FnFloor.Pure) (a0 : Option Addr) (len0 cap0 : Nat) (z0 : List Int) (w : World) (w0 : (a0 = none ∧ len0 = 0 ∧ cap0 = 0 ∧ z0 = []) ∨ ∃ x, a0 = some x ∧ len0 ≤ cap0 ∧ cap0 ≤ maxLen ∧ z0.length = cap0 ∧ (∀ i, i < z0.length → w.cell? (x.add i) = some (.int .u8 (z0.getD i 0))) ∧ ∀ n ∈ z0, (Lit.int .u8 n).wf = true) (y0 : len0 * 1 ≤ 140737488351232) :
    Calls Try.prog 5 #[.slice a0 len0 cap0] w fun e w' => e = .returned (.bool true) ∧ Below w.heap.size w w' := by
  obtain ⟨l0, rfl, hr0, hm0, hw0, hc0⟩ := ReadsInt.ofRowC w0
  obtain ⟨k, h⟩ := P l0 hm0 y0 hw0
  refine (laws_FnFloor.calls k _ _ l0 true w (Kd.C_of_reads (d := (0 : Int)) (h1 := fun _ => rfl) hr0) hc0 h).mono ?_
  rintro e w' ⟨rfl, hd⟩
  exact ⟨rfl, hd⟩

end Go.Proofs.Ytnokdjkkgcpbdac.Print
