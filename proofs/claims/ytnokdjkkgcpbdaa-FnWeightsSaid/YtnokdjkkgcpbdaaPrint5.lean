/- Go functions as plain Lean functions, and that the Go code answers just as these, wherever they answer. Conditions: those of each theorem. Written by a program of this session (wip/patch.py). -/
import Derived.Test.YtnokdjkkgcpbdaaPrint0
import Derived.Test.YtnokdjkkgcpbdaaPrint2
import Derived.Test.YtnokdjkkgcpbdaaPrint3
import Derived.Test.YtnokdjkkgcpbdaaPrint4
namespace Go.Proofs.Ytnokdjkkgcpbdaa.Print
open Go.RowKit Go.Proofs.Ytnokdjkkgcpbdaa.Base Go.Proofs.YtnokdjkkgcpbdaaW.PrintWords Go.Proofs.YtnokdjkkgcpbdaaW.PrintLast Go.Proofs.YtnokdjkkgcpbdaaW.PrintMore
attribute [local go_sem] max2_int min2_int max_two min_two max_three min_three max_four min_four   -- for this text's walks alone
set_option linter.unusedVariables false
set_option linter.unusedSimpArgs false

/-! ### laws_FnWeights: function 3 -/
mutual
def laws_FnWeights.j0 : Nat → List Int → Int → List Int → Int → Int → Bool → Bool → Option (Bool)
  | 0, _, _, _, _, _, _, _ => none
  | k + 1, x0, x3, x4, x5, x6, x7, x54 => if x54 = true then (some false) else ((spec_DrawNiceOk.f k x0).bind fun t205 => ((impl_NiceOk.f t205).bind fun t206 => (if t206 = true then ((impl_WeightOf.f t205).bind fun t207 => ((impl_StepOf.f t205).bind fun t208 => (if (wrap64 (t207 * t208)) = 48 then (if t205 < 4 then ((impl_WeightOf.f (wrap64 (t205 + 1))).bind fun t209 => (if t207 ≤ t209 then (laws_FnWeights.j1 k x3 x4 x5 x6 x7 true) else ((impl_StepOf.f (wrap64 (t205 + 1))).bind fun t210 => (laws_FnWeights.j1 k x3 x4 x5 x6 x7 (decide (t208 ≥ t210)))))) else (laws_FnWeights.j1 k x3 x4 x5 x6 x7 false)) else (laws_FnWeights.j1 k x3 x4 x5 x6 x7 true)))) else (laws_FnWeights.j1 k x3 x4 x5 x6 x7 false))))
def laws_FnWeights.j1 : Nat → Int → List Int → Int → Int → Bool → Bool → Option (Bool)
  | 0, _, _, _, _, _, _ => none
  | k + 1, x3, x4, x5, x6, x7, x86 => if x86 = true then (some false) else (if x7 = true then (laws_FnWeights.l0 k x3 x4 x5 x6 0 0) else (if x5 = 0 then (some (x6 == 0)) else (some false)))
def laws_FnWeights.l0 : Nat → Int → List Int → Int → Int → Int → Int → Option (Bool)
  | 0, _, _, _, _, _, _ => none
  | k + 1, x3, x4, x5, x6, x12, x13 => if x13 < (x4.length : Int) then (if 0 ≤ x13 then ((impl_WeightOf.f (rd x4 x13)).bind fun t212 => (laws_FnWeights.l0 k x3 x4 x5 x6 (wrap64 (x12 + t212)) (wrap64 (x13 + 1)))) else (none)) else ((impl_WeightOf.f x3).bind fun t213 => (if x5 = t213 then (some (x6 == (wrap64 (x5 + x12)))) else (some false)))
end
def laws_FnWeights.f (k : Nat) (l0 : List Int) : Option (Bool) := (laws_big.f l0).bind fun t192 => (if t192 = true then (some true) else ((spec_DrawPartOf.f k l0).bind fun bt193 => ((impl_PartOf.f k bt193.1 bt193.2).bind fun bt197 => ((spec_PartOf.f k bt193.1 bt193.2).bind fun bt200 => (if (bt197.2.2 != bt200.2.2) = true then (laws_FnWeights.j0 k l0 bt193.1 bt193.2 bt197.1 bt197.2.1 bt197.2.2 true) else (if bt197.1 = bt200.1 then (if bt197.2.1 = bt200.2.1 then ((impl_NiceOk.f bt193.1).bind fun t203 => ((spec_NiceOk.f bt193.1).bind fun t204 => (laws_FnWeights.j0 k l0 bt193.1 bt193.2 bt197.1 bt197.2.1 bt197.2.2 (t203 != t204)))) else (laws_FnWeights.j0 k l0 bt193.1 bt193.2 bt197.1 bt197.2.1 bt197.2.2 true)) else (laws_FnWeights.j0 k l0 bt193.1 bt193.2 bt197.1 bt197.2.1 bt197.2.2 true)))))))
theorem laws_FnWeights.mono_l : ∀ k, (∀ y0 y1 y2 y3 y4 y5 y6, LeO (laws_FnWeights.j0 k y0 y1 y2 y3 y4 y5 y6) (laws_FnWeights.j0 (k + 1) y0 y1 y2 y3 y4 y5 y6)) ∧ (∀ y0 y1 y2 y3 y4 y5, LeO (laws_FnWeights.j1 k y0 y1 y2 y3 y4 y5) (laws_FnWeights.j1 (k + 1) y0 y1 y2 y3 y4 y5)) ∧ (∀ y0 y1 y2 y3 y4 y5, LeO (laws_FnWeights.l0 k y0 y1 y2 y3 y4 y5) (laws_FnWeights.l0 (k + 1) y0 y1 y2 y3 y4 y5))
  | 0 => ⟨fun _ _ _ _ _ _ _ r h => by simp [laws_FnWeights.j0] at h, fun _ _ _ _ _ _ r h => by simp [laws_FnWeights.j1] at h, fun _ _ _ _ _ _ r h => by simp [laws_FnWeights.l0] at h⟩
  | k + 1 => by
    obtain ⟨ih0, ih1, ih2⟩ := laws_FnWeights.mono_l k
    refine ⟨?_, ?_, ?_⟩
    · intro y0 y1 y2 y3 y4 y5 y6
      unfold laws_FnWeights.j0
      repeat' first
      | (with_reducible exact ih0 _ _ _ _ _ _ _)
      | (with_reducible exact ih1 _ _ _ _ _ _)
      | (with_reducible exact ih2 _ _ _ _ _ _)
      | (with_reducible exact impl_PartOf.mono _ _ _)
      | (with_reducible exact spec_DrawNiceOk.mono _ _)
      | (with_reducible exact spec_DrawPartOf.mono _ _)
      | (with_reducible exact spec_PartOf.mono _ _ _)
      | (with_reducible exact LeO.refl _)
      | (with_reducible exact LeO.none _)
      | (with_reducible refine LeO.ite ?_ ?_)
      | (with_reducible refine LeO.bind ?_ (fun _ => ?_))
      | exact ih0 _ _ _ _ _ _ _
      | exact ih1 _ _ _ _ _ _
      | exact ih2 _ _ _ _ _ _
      | exact impl_PartOf.mono _ _ _
      | exact spec_DrawNiceOk.mono _ _
      | exact spec_DrawPartOf.mono _ _
      | exact spec_PartOf.mono _ _ _
      | exact LeO.none _
      | refine LeO.ite ?_ ?_
      | refine LeO.bind ?_ (fun _ => ?_)
    · intro y0 y1 y2 y3 y4 y5
      unfold laws_FnWeights.j1
      repeat' first
      | (with_reducible exact ih0 _ _ _ _ _ _ _)
      | (with_reducible exact ih1 _ _ _ _ _ _)
      | (with_reducible exact ih2 _ _ _ _ _ _)
      | (with_reducible exact impl_PartOf.mono _ _ _)
      | (with_reducible exact spec_DrawNiceOk.mono _ _)
      | (with_reducible exact spec_DrawPartOf.mono _ _)
      | (with_reducible exact spec_PartOf.mono _ _ _)
      | (with_reducible exact LeO.refl _)
      | (with_reducible exact LeO.none _)
      | (with_reducible refine LeO.ite ?_ ?_)
      | (with_reducible refine LeO.bind ?_ (fun _ => ?_))
      | exact ih0 _ _ _ _ _ _ _
      | exact ih1 _ _ _ _ _ _
      | exact ih2 _ _ _ _ _ _
      | exact impl_PartOf.mono _ _ _
      | exact spec_DrawNiceOk.mono _ _
      | exact spec_DrawPartOf.mono _ _
      | exact spec_PartOf.mono _ _ _
      | exact LeO.none _
      | refine LeO.ite ?_ ?_
      | refine LeO.bind ?_ (fun _ => ?_)
    · intro y0 y1 y2 y3 y4 y5
      unfold laws_FnWeights.l0
      repeat' first
      | (with_reducible exact ih0 _ _ _ _ _ _ _)
      | (with_reducible exact ih1 _ _ _ _ _ _)
      | (with_reducible exact ih2 _ _ _ _ _ _)
      | (with_reducible exact impl_PartOf.mono _ _ _)
      | (with_reducible exact spec_DrawNiceOk.mono _ _)
      | (with_reducible exact spec_DrawPartOf.mono _ _)
      | (with_reducible exact spec_PartOf.mono _ _ _)
      | (with_reducible exact LeO.refl _)
      | (with_reducible exact LeO.none _)
      | (with_reducible refine LeO.ite ?_ ?_)
      | (with_reducible refine LeO.bind ?_ (fun _ => ?_))
      | exact ih0 _ _ _ _ _ _ _
      | exact ih1 _ _ _ _ _ _
      | exact ih2 _ _ _ _ _ _
      | exact impl_PartOf.mono _ _ _
      | exact spec_DrawNiceOk.mono _ _
      | exact spec_DrawPartOf.mono _ _
      | exact spec_PartOf.mono _ _ _
      | exact LeO.none _
      | refine LeO.ite ?_ ?_
      | refine LeO.bind ?_ (fun _ => ?_)
theorem laws_FnWeights.mono : ∀ a0 k, LeO (laws_FnWeights.f k a0) (laws_FnWeights.f (k + 1) a0) := by
  intro a0 k
  obtain ⟨ih0, ih1, ih2⟩ := laws_FnWeights.mono_l k
  unfold laws_FnWeights.f
  repeat' first
      | (with_reducible exact ih0 _ _ _ _ _ _ _)
      | (with_reducible exact ih1 _ _ _ _ _ _)
      | (with_reducible exact ih2 _ _ _ _ _ _)
      | (with_reducible exact impl_PartOf.mono _ _ _)
      | (with_reducible exact spec_DrawNiceOk.mono _ _)
      | (with_reducible exact spec_DrawPartOf.mono _ _)
      | (with_reducible exact spec_PartOf.mono _ _ _)
      | (with_reducible exact LeO.refl _)
      | (with_reducible exact LeO.none _)
      | (with_reducible refine LeO.ite ?_ ?_)
      | (with_reducible refine LeO.bind ?_ (fun _ => ?_))
      | exact ih0 _ _ _ _ _ _ _
      | exact ih1 _ _ _ _ _ _
      | exact ih2 _ _ _ _ _ _
      | exact impl_PartOf.mono _ _ _
      | exact spec_DrawNiceOk.mono _ _
      | exact spec_DrawPartOf.mono _ _
      | exact spec_PartOf.mono _ _ _
      | exact LeO.none _
      | refine LeO.ite ?_ ?_
      | refine LeO.bind ?_ (fun _ => ?_)
set_option maxHeartbeats 8000000 in
set_option maxRecDepth 100000 in
theorem laws_FnWeights.calls (k : Nat) (A0 : Option Addr) (c0 : Nat) (l0 : List Int) (r : Bool) (w : World) (hr0 : Kd.C (Kd.int .u8) w A0 l0.length l0) (hc0 : l0.length ≤ c0) (h : laws_FnWeights.f k l0 = some r) :
    Calls Try.prog 3 #[.slice A0 l0.length c0] w fun e w' => e = .returned (.bool r) ∧ Below w.heap.size w w' := by
  have HR0 := Aside0.mk hr0
  have HC0 := Aside0.mk hc0
  clear hr0 hc0
  have HB := Aside0.mk (Below.refl w.heap.size w)
  have H : ((laws_big.f l0).bind fun t192 => (if t192 = true then (some true) else ((spec_DrawPartOf.f k l0).bind fun bt193 => ((impl_PartOf.f k bt193.1 bt193.2).bind fun bt197 => ((spec_PartOf.f k bt193.1 bt193.2).bind fun bt200 => (if (bt197.2.2 != bt200.2.2) = true then (laws_FnWeights.j0 k l0 bt193.1 bt193.2 bt197.1 bt197.2.1 bt197.2.2 true) else (if bt197.1 = bt200.1 then (if bt197.2.1 = bt200.2.1 then ((impl_NiceOk.f bt193.1).bind fun t203 => ((spec_NiceOk.f bt193.1).bind fun t204 => (laws_FnWeights.j0 k l0 bt193.1 bt193.2 bt197.1 bt197.2.1 bt197.2.2 (t203 != t204)))) else (laws_FnWeights.j0 k l0 bt193.1 bt193.2 bt197.1 bt197.2.1 bt197.2.2 true)) else (laws_FnWeights.j0 k l0 bt193.1 bt193.2 bt197.1 bt197.2.1 bt197.2.2 true)))))))) = some r := h
  clear h
  replace H := Option.bind_eq_some_iff.mp H
  obtain ⟨t192, A20, H⟩ := H
  replace H : (if t192 = true then (some true) else ((spec_DrawPartOf.f k l0).bind fun bt193 => ((impl_PartOf.f k bt193.1 bt193.2).bind fun bt197 => ((spec_PartOf.f k bt193.1 bt193.2).bind fun bt200 => (if (bt197.2.2 != bt200.2.2) = true then (laws_FnWeights.j0 k l0 bt193.1 bt193.2 bt197.1 bt197.2.1 bt197.2.2 true) else (if bt197.1 = bt200.1 then (if bt197.2.1 = bt200.2.1 then ((impl_NiceOk.f bt193.1).bind fun t203 => ((spec_NiceOk.f bt193.1).bind fun t204 => (laws_FnWeights.j0 k l0 bt193.1 bt193.2 bt197.1 bt197.2.1 bt197.2.2 (t203 != t204)))) else (laws_FnWeights.j0 k l0 bt193.1 bt193.2 bt197.1 bt197.2.1 bt197.2.2 true)) else (laws_FnWeights.j0 k l0 bt193.1 bt193.2 bt197.1 bt197.2.1 bt197.2.2 true))))))) = some r := H
  have A2 := Aside0.mk A20
  clear A20
  by_cases c3 : t192 = true
  · subst c3
    have H1 : (some true) = some r := by rw [if_pos rfl] at H; exact H
    clear H
    have H := H1
    clear H1
    obtain rfl := Option.some.inj H
    go_enter Try.func3, Try.ntmps3
    go_wp2_with (first | ((with_reducible refine gate_callee (f := 15) rfl ?_); refine goesL_ (some 15) rfl rfl Try.func15 (by kernel_rfl) rfl #[.slice A0 l0.length c0] rfl (by (try simp only [List.map_toArray, List.map_cons, List.map_nil]); first | done | rfl | (simp only [List.length_drop, List.length_take]; rfl)) ?_; (with_reducible refine (laws_big.calls _ _ l0 true _ ?side1 ?side2 A2.out).mono ?_); (case side1 => repeat (first | exact HR0.out | (with_reducible refine Kd.C_alloc ?_ _) | (with_reducible refine Kd.C_drewN ?_ _) | (with_reducible refine Kd.C_drew ?_))); (case side2 => exact HC0.out); rintro e w' ⟨rfl, ⟨nd, rfl⟩⟩; refine ⟨_, rfl, ?_⟩))
    go_ret
    exact ⟨by first | rfl | (simp [errW_none, errW_some] <;> rfl) | (simp [*, errW_none, errW_some] <;> rfl), by repeat (first | (with_reducible first | exact HB.out | apply below_alloc | apply pw_below_drewN | apply below_drew1) | exact HB.out)⟩
  · replace c3 := Bool.eq_false_iff.mpr c3
    subst c3
    have H1 : ((spec_DrawPartOf.f k l0).bind fun bt193 => ((impl_PartOf.f k bt193.1 bt193.2).bind fun bt197 => ((spec_PartOf.f k bt193.1 bt193.2).bind fun bt200 => (if (bt197.2.2 != bt200.2.2) = true then (laws_FnWeights.j0 k l0 bt193.1 bt193.2 bt197.1 bt197.2.1 bt197.2.2 true) else (if bt197.1 = bt200.1 then (if bt197.2.1 = bt200.2.1 then ((impl_NiceOk.f bt193.1).bind fun t203 => ((spec_NiceOk.f bt193.1).bind fun t204 => (laws_FnWeights.j0 k l0 bt193.1 bt193.2 bt197.1 bt197.2.1 bt197.2.2 (t203 != t204)))) else (laws_FnWeights.j0 k l0 bt193.1 bt193.2 bt197.1 bt197.2.1 bt197.2.2 true)) else (laws_FnWeights.j0 k l0 bt193.1 bt193.2 bt197.1 bt197.2.1 bt197.2.2 true)))))) = some r := by rw [if_neg (show ¬ (false = true) by decide)] at H; exact H
    clear H
    have H := H1
    clear H1
    replace H := Option.bind_eq_some_iff.mp H
    obtain ⟨⟨t193, t194⟩, A40, H⟩ := H
    replace H : ((impl_PartOf.f k t193 t194).bind fun bt197 => ((spec_PartOf.f k t193 t194).bind fun bt200 => (if (bt197.2.2 != bt200.2.2) = true then (laws_FnWeights.j0 k l0 t193 t194 bt197.1 bt197.2.1 bt197.2.2 true) else (if bt197.1 = bt200.1 then (if bt197.2.1 = bt200.2.1 then ((impl_NiceOk.f t193).bind fun t203 => ((spec_NiceOk.f t193).bind fun t204 => (laws_FnWeights.j0 k l0 t193 t194 bt197.1 bt197.2.1 bt197.2.2 (t203 != t204)))) else (laws_FnWeights.j0 k l0 t193 t194 bt197.1 bt197.2.1 bt197.2.2 true)) else (laws_FnWeights.j0 k l0 t193 t194 bt197.1 bt197.2.1 bt197.2.2 true))))) = some r := H
    have A4 := Aside0.mk A40
    clear A40
    replace H := Option.bind_eq_some_iff.mp H
    obtain ⟨⟨t197, t198, t199⟩, A50, H⟩ := H
    replace H : ((spec_PartOf.f k t193 t194).bind fun bt200 => (if (t199 != bt200.2.2) = true then (laws_FnWeights.j0 k l0 t193 t194 t197 t198 t199 true) else (if t197 = bt200.1 then (if t198 = bt200.2.1 then ((impl_NiceOk.f t193).bind fun t203 => ((spec_NiceOk.f t193).bind fun t204 => (laws_FnWeights.j0 k l0 t193 t194 t197 t198 t199 (t203 != t204)))) else (laws_FnWeights.j0 k l0 t193 t194 t197 t198 t199 true)) else (laws_FnWeights.j0 k l0 t193 t194 t197 t198 t199 true)))) = some r := H
    have A5 := Aside0.mk A50
    clear A50
    replace H := Option.bind_eq_some_iff.mp H
    obtain ⟨⟨t200, t201, t202⟩, A60, H⟩ := H
    replace H : (if (t199 != t202) = true then (laws_FnWeights.j0 k l0 t193 t194 t197 t198 t199 true) else (if t197 = t200 then (if t198 = t201 then ((impl_NiceOk.f t193).bind fun t203 => ((spec_NiceOk.f t193).bind fun t204 => (laws_FnWeights.j0 k l0 t193 t194 t197 t198 t199 (t203 != t204)))) else (laws_FnWeights.j0 k l0 t193 t194 t197 t198 t199 true)) else (laws_FnWeights.j0 k l0 t193 t194 t197 t198 t199 true))) = some r := H
    have A6 := Aside0.mk A60
    clear A60
    have HC7 := Aside0.mk H
    clear H
    go_enter Try.func3, Try.ntmps3
    go_upto_region 6 with (first | ((with_reducible refine gate_callee (f := 15) rfl ?_); refine goesL_ (some 15) rfl rfl Try.func15 (by kernel_rfl) rfl #[.slice A0 l0.length c0] rfl (by (try simp only [List.map_toArray, List.map_cons, List.map_nil]); first | done | rfl | (simp only [List.length_drop, List.length_take]; rfl)) ?_; (with_reducible refine (laws_big.calls _ _ l0 false _ ?side1 ?side2 A2.out).mono ?_); (case side1 => repeat (first | exact HR0.out | (with_reducible refine Kd.C_alloc ?_ _) | (with_reducible refine Kd.C_drewN ?_ _) | (with_reducible refine Kd.C_drew ?_))); (case side2 => exact HC0.out); rintro e w' ⟨rfl, ⟨nd, rfl⟩⟩; refine ⟨_, rfl, ?_⟩) | ((with_reducible refine gate_callee (f := 16) rfl ?_); refine goesL_ (some 18) rfl rfl Try.func16 (by kernel_rfl) rfl #[.slice A0 l0.length c0] rfl (by (try simp only [List.map_toArray, List.map_cons, List.map_nil]); first | done | rfl | (simp only [List.length_drop, List.length_take]; rfl)) ?_; (with_reducible refine (spec_DrawPartOf.calls k _ _ l0 t193 t194 _ ?side1 ?side2 A4.out).mono ?_); (case side1 => repeat (first | exact HR0.out | (with_reducible refine Kd.C_alloc ?_ _) | (with_reducible refine Kd.C_drewN ?_ _) | (with_reducible refine Kd.C_drew ?_))); (case side2 => exact HC0.out); rintro e w8 ⟨v195, rfl, ho0, hb⟩; refine ⟨_, rfl, ?_⟩; have n0_ := Aside0.mk (Kd.R_lower ho0 (below_size (by repeat (first | (with_reducible first | exact HB.out | apply below_alloc | apply pw_below_drewN | apply below_drew1) | exact HB.out)))); have n1_ := Aside0.mk (below_step (by repeat (first | (with_reducible first | exact HB.out | apply below_alloc | apply pw_below_drewN | apply below_drew1) | exact HB.out)) hb); clear HB; have HO196 := n0_; have HB := n1_; clear n0_ n1_; (try clear hb); (try clear hb2); (try clear hk); (try clear hi); (try clear ho0); obtain ⟨Ao9, co9, eo9⟩ := Kd.R_slice HO196.out; subst eo9) | ((with_reducible refine gate_callee (f := 17) rfl ?_); refine goesL_ (some 24) rfl rfl Try.func17 (by kernel_rfl) rfl #[.int .i64 t193, .slice Ao9 t194.length co9] rfl (by (try simp only [List.map_toArray, List.map_cons, List.map_nil]); first | done | rfl | (simp only [List.length_drop, List.length_take]; rfl)) ?_; (with_reducible refine (impl_PartOf.calls k t193 _ _ t194 t197 t198 t199 _ ?side1 ?side2 A5.out).mono ?_); (case side1 => repeat (first | exact (Kd.R_reads' HO196.out).2.2 | (with_reducible refine Kd.C_alloc ?_ _) | (with_reducible refine Kd.C_drewN ?_ _) | (with_reducible refine Kd.C_drew ?_))); (case side2 => exact (Kd.R_reads' HO196.out).2.1); rintro e w10 ⟨rfl, hb⟩; refine ⟨_, rfl, ?_⟩; have n0_ := Aside0.mk (Kd.R_below (by (with_reducible repeat (first | apply Kd.R_alloc | apply Kd.R_drewN | apply Kd.R_drew)); exact HO196.out) hb); have n1_ := Aside0.mk (below_step (by repeat (first | (with_reducible first | exact HB.out | apply below_alloc | apply pw_below_drewN | apply below_drew1) | exact HB.out)) hb); clear HO196; clear HB; have HO196 := n0_; have HB := n1_; clear n0_ n1_; (try clear hb); (try clear hb2); (try clear hk); (try clear hi)) | ((with_reducible refine gate_callee (f := 18) rfl ?_); refine goesL_ (some 31) rfl rfl Try.func18 (by kernel_rfl) rfl #[.int .i64 t193, .slice Ao9 t194.length co9] rfl (by (try simp only [List.map_toArray, List.map_cons, List.map_nil]); first | done | rfl | (simp only [List.length_drop, List.length_take]; rfl)) ?_; (with_reducible refine (spec_PartOf.calls k t193 _ _ t194 t200 t201 t202 _ ?side1 ?side2 A6.out).mono ?_); (case side1 => repeat (first | exact (Kd.R_reads' HO196.out).2.2 | (with_reducible refine Kd.C_alloc ?_ _) | (with_reducible refine Kd.C_drewN ?_ _) | (with_reducible refine Kd.C_drew ?_))); (case side2 => exact (Kd.R_reads' HO196.out).2.1); rintro e w11 ⟨rfl, hb⟩; refine ⟨_, rfl, ?_⟩; have n0_ := Aside0.mk (Kd.R_below (by (with_reducible repeat (first | apply Kd.R_alloc | apply Kd.R_drewN | apply Kd.R_drew)); exact HO196.out) hb); have n1_ := Aside0.mk (below_step (by repeat (first | (with_reducible first | exact HB.out | apply below_alloc | apply pw_below_drewN | apply below_drew1) | exact HB.out)) hb); clear HO196; clear HB; have HO196 := n0_; have HB := n1_; clear n0_ n1_; (try clear hb); (try clear hb2); (try clear hk); (try clear hi)))
    (try simp only [Act.put, List.setIfInBounds_toArray, List.set_cons_zero, List.set_cons_succ])
    go_cut [54] (fun v54 wc => ∃ (kq : Nat) (x54_6 : Bool), v54 = .bool x54_6 ∧ Aside0 (laws_FnWeights.j0 kq l0 t193 t194 t197 t198 t199 x54_6 = some r) ∧ Aside0 (kq ≤ k) ∧ Aside0 (Kd.R (Kd.int .i64) 3 wc w.heap.size (fun _ => True) (.slice Ao9 t194.length co9) t194) ∧ Aside0 (Below w.heap.size w wc))
    case first =>
      have H := HC7.out
      clear HC7
      by_cases c12 : (t199 != t202) = true
      · rw [if_pos c12] at H
        have c12b0 : (t199 != t202) = true := c12
        (try (have c12b1 : decide (t199 = t202) = false := by simpa using c12))
        (try (have c12b2 : (t199 == t202) = false := by simpa using c12))
        (try (have c12b3 : ¬ (t199 = t202) := by simpa using c12))
        clear c12
        (first | rw [c12b0] | (simp only [i64_w, i32_w]; rw [c12b0]) | skip)
        have H' := Aside0.mk H
        clear H
        go_wp2
        go_meet
        case rel => exact ⟨_, (true), (by first | rfl | (simp; done) | (simp [*]; done)), H', ⟨by first | omega | exact Nat.le_refl _⟩, ⟨by (with_reducible repeat (first | apply Kd.R_alloc | apply Kd.R_drewN | apply Kd.R_drew)); exact HO196.out⟩, ⟨by repeat (first | (with_reducible first | exact HB.out | apply below_alloc | apply pw_below_drewN | apply below_drew1) | exact HB.out)⟩⟩
      · rw [if_neg c12] at H
        have c12b0 : (t199 != t202) = false := by simpa using c12
        (try (have c12b1 : decide (t199 = t202) = true := by simpa using c12))
        (try (have c12b2 : (t199 == t202) = true := by simpa using c12))
        clear c12
        (first | rw [c12b0] | (simp only [i64_w, i32_w]; rw [c12b0]) | skip)
        by_cases c13 : t197 = t200
        · rw [if_pos c13] at H
          have c13b0 : (t197 == t200) = true := beq_iff_eq.mpr c13
          have c13b1 : (t197 != t200) = false := bne_eq_false_iff_eq.mpr c13
          clear c13
          by_cases c14 : t198 = t201
          · rw [if_pos c14] at H
            have c14b0 : (t198 == t201) = true := beq_iff_eq.mpr c14
            have c14b1 : (t198 != t201) = false := bne_eq_false_iff_eq.mpr c14
            clear c14
            replace H := Option.bind_eq_some_iff.mp H
            obtain ⟨t203, A150, H⟩ := H
            replace H : ((spec_NiceOk.f t193).bind fun t204 => (laws_FnWeights.j0 k l0 t193 t194 t197 t198 t199 (t203 != t204))) = some r := H
            have A15 := Aside0.mk A150
            clear A150
            replace H := Option.bind_eq_some_iff.mp H
            obtain ⟨t204, A160, H⟩ := H
            replace H : (laws_FnWeights.j0 k l0 t193 t194 t197 t198 t199 (t203 != t204)) = some r := H
            have A16 := Aside0.mk A160
            clear A160
            have H' := Aside0.mk H
            clear H
            go_wp2_with (first | (go_at_call 19; (with_reducible refine (impl_NiceOk.calls t193 t203 _ A15.out).mono ?_); rintro e w' ⟨rfl, ⟨nd, rfl⟩⟩) | (go_at_call 20; (with_reducible refine (spec_NiceOk.calls t193 t204 _ A16.out).mono ?_); rintro e w' ⟨rfl, ⟨nd, rfl⟩⟩))
            go_meet
            case rel => exact ⟨_, ((t203 != t204)), (by first | rfl | (simp; done) | (simp [*]; done)), H', ⟨by first | omega | exact Nat.le_refl _⟩, ⟨by (with_reducible repeat (first | apply Kd.R_alloc | apply Kd.R_drewN | apply Kd.R_drew)); exact HO196.out⟩, ⟨by repeat (first | (with_reducible first | exact HB.out | apply below_alloc | apply pw_below_drewN | apply below_drew1) | exact HB.out)⟩⟩
          · rw [if_neg c14] at H
            have c14b0 : (t198 == t201) = false := beq_eq_false_iff_ne.mpr c14
            have c14b1 : (t198 != t201) = true := bne_iff_ne.mpr c14
            have H' := Aside0.mk H
            clear H
            go_wp2
            go_meet
            case rel => exact ⟨_, (true), (by first | rfl | (simp; done) | (simp [*]; done)), H', ⟨by first | omega | exact Nat.le_refl _⟩, ⟨by (with_reducible repeat (first | apply Kd.R_alloc | apply Kd.R_drewN | apply Kd.R_drew)); exact HO196.out⟩, ⟨by repeat (first | (with_reducible first | exact HB.out | apply below_alloc | apply pw_below_drewN | apply below_drew1) | exact HB.out)⟩⟩
        · rw [if_neg c13] at H
          have c13b0 : (t197 == t200) = false := beq_eq_false_iff_ne.mpr c13
          have c13b1 : (t197 != t200) = true := bne_iff_ne.mpr c13
          have H' := Aside0.mk H
          clear H
          go_wp2
          go_meet
          case rel => exact ⟨_, (true), (by first | rfl | (simp; done) | (simp [*]; done)), H', ⟨by first | omega | exact Nat.le_refl _⟩, ⟨by (with_reducible repeat (first | apply Kd.R_alloc | apply Kd.R_drewN | apply Kd.R_drew)); exact HO196.out⟩, ⟨by repeat (first | (with_reducible first | exact HB.out | apply below_alloc | apply pw_below_drewN | apply below_drew1) | exact HB.out)⟩⟩
    case rest =>
      clear HC7
      try clear c1
      try clear p2
      try clear c3
      try clear c12
      try clear c12b0
      try clear c12b1
      try clear c12b2
      try clear c13
      try clear c13b0
      try clear c13b1
      try clear c14
      try clear c14b0
      try clear c14b1
      try clear c15
      try clear c16
      obtain ⟨kq, x54_6, rfl, HA, HJ6, HO_4, HB⟩ := hcut
      cases kq with
      | zero => exact absurd HA.out (by simp [laws_FnWeights.j0])
      | succ kj6 =>
        have H := HA.out
        clear HA
        simp only [laws_FnWeights.j0] at H
        by_cases c17 : x54_6 = true
        · subst c17
          have H1 : (some false) = some r := by rw [if_pos rfl] at H; exact H
          clear H
          have H := H1
          clear H1
          obtain rfl := Option.some.inj H
          go_wp2
          go_ret
          exact ⟨by first | rfl | (simp [errW_none, errW_some] <;> rfl) | (simp [*, errW_none, errW_some] <;> rfl), by repeat (first | (with_reducible first | exact HB.out | apply below_alloc | apply pw_below_drewN | apply below_drew1) | exact HB.out)⟩
        · replace c17 := Bool.eq_false_iff.mpr c17
          subst c17
          have H1 : ((spec_DrawNiceOk.f kj6 l0).bind fun t205 => ((impl_NiceOk.f t205).bind fun t206 => (if t206 = true then ((impl_WeightOf.f t205).bind fun t207 => ((impl_StepOf.f t205).bind fun t208 => (if (wrap64 (t207 * t208)) = 48 then (if t205 < 4 then ((impl_WeightOf.f (wrap64 (t205 + 1))).bind fun t209 => (if t207 ≤ t209 then (laws_FnWeights.j1 kj6 t193 t194 t197 t198 t199 true) else ((impl_StepOf.f (wrap64 (t205 + 1))).bind fun t210 => (laws_FnWeights.j1 kj6 t193 t194 t197 t198 t199 (decide (t208 ≥ t210)))))) else (laws_FnWeights.j1 kj6 t193 t194 t197 t198 t199 false)) else (laws_FnWeights.j1 kj6 t193 t194 t197 t198 t199 true)))) else (laws_FnWeights.j1 kj6 t193 t194 t197 t198 t199 false)))) = some r := by rw [if_neg (show ¬ (false = true) by decide)] at H; exact H
          clear H
          have H := H1
          clear H1
          replace H := Option.bind_eq_some_iff.mp H
          obtain ⟨t205, A180, H⟩ := H
          replace H : ((impl_NiceOk.f t205).bind fun t206 => (if t206 = true then ((impl_WeightOf.f t205).bind fun t207 => ((impl_StepOf.f t205).bind fun t208 => (if (wrap64 (t207 * t208)) = 48 then (if t205 < 4 then ((impl_WeightOf.f (wrap64 (t205 + 1))).bind fun t209 => (if t207 ≤ t209 then (laws_FnWeights.j1 kj6 t193 t194 t197 t198 t199 true) else ((impl_StepOf.f (wrap64 (t205 + 1))).bind fun t210 => (laws_FnWeights.j1 kj6 t193 t194 t197 t198 t199 (decide (t208 ≥ t210)))))) else (laws_FnWeights.j1 kj6 t193 t194 t197 t198 t199 false)) else (laws_FnWeights.j1 kj6 t193 t194 t197 t198 t199 true)))) else (laws_FnWeights.j1 kj6 t193 t194 t197 t198 t199 false))) = some r := H
          have A18 := Aside0.mk A180
          clear A180
          have HC19 := Aside0.mk H
          clear H
          go_upto_region 9 with (first | ((with_reducible refine gate_callee (f := 21) rfl ?_); refine goesL_ (some 56) rfl rfl Try.func21 (by kernel_rfl) rfl #[.slice A0 l0.length c0] rfl (by (try simp only [List.map_toArray, List.map_cons, List.map_nil]); first | done | rfl | (simp only [List.length_drop, List.length_take]; rfl)) ?_; (with_reducible refine (spec_DrawNiceOk.calls kj6 _ _ l0 t205 _ ?side1 ?side2 A18.out).mono ?_); (case side1 => repeat (first | exact (Kd.C_below HR0.out HB.out) | (with_reducible refine Kd.C_alloc ?_ _) | (with_reducible refine Kd.C_drewN ?_ _) | (with_reducible refine Kd.C_drew ?_))); (case side2 => exact HC0.out); rintro e w20 ⟨rfl, hb⟩; refine ⟨_, rfl, ?_⟩; have n0_ := Aside0.mk (Kd.R_below (by (with_reducible repeat (first | apply Kd.R_alloc | apply Kd.R_drewN | apply Kd.R_drew)); exact HO_4.out) hb); have n1_ := Aside0.mk (below_step (by repeat (first | (with_reducible first | exact HB.out | apply below_alloc | apply pw_below_drewN | apply below_drew1) | exact HB.out)) hb); clear HO_4; clear HB; have HO_4 := n0_; have HB := n1_; clear n0_ n1_; (try clear hb); (try clear hb2); (try clear hk); (try clear hi)))
          (try simp only [Act.put, List.setIfInBounds_toArray, List.set_cons_zero, List.set_cons_succ])
          go_cut [86] (fun v86 wc => ∃ (kq : Nat) (x86_18 : Bool), v86 = .bool x86_18 ∧ Aside0 (laws_FnWeights.j1 kq t193 t194 t197 t198 t199 x86_18 = some r) ∧ Aside0 (kq ≤ kj6) ∧ Aside0 (Kd.R (Kd.int .i64) 3 wc w.heap.size (fun _ => True) (.slice Ao9 t194.length co9) t194) ∧ Aside0 (Below w.heap.size w wc))
          case first =>
            have H := HC19.out
            clear HC19
            replace H := Option.bind_eq_some_iff.mp H
            obtain ⟨t206, A210, H⟩ := H
            replace H : (if t206 = true then ((impl_WeightOf.f t205).bind fun t207 => ((impl_StepOf.f t205).bind fun t208 => (if (wrap64 (t207 * t208)) = 48 then (if t205 < 4 then ((impl_WeightOf.f (wrap64 (t205 + 1))).bind fun t209 => (if t207 ≤ t209 then (laws_FnWeights.j1 kj6 t193 t194 t197 t198 t199 true) else ((impl_StepOf.f (wrap64 (t205 + 1))).bind fun t210 => (laws_FnWeights.j1 kj6 t193 t194 t197 t198 t199 (decide (t208 ≥ t210)))))) else (laws_FnWeights.j1 kj6 t193 t194 t197 t198 t199 false)) else (laws_FnWeights.j1 kj6 t193 t194 t197 t198 t199 true)))) else (laws_FnWeights.j1 kj6 t193 t194 t197 t198 t199 false)) = some r := H
            have A21 := Aside0.mk A210
            clear A210
            by_cases c22 : t206 = true
            · subst c22
              have H1 : ((impl_WeightOf.f t205).bind fun t207 => ((impl_StepOf.f t205).bind fun t208 => (if (wrap64 (t207 * t208)) = 48 then (if t205 < 4 then ((impl_WeightOf.f (wrap64 (t205 + 1))).bind fun t209 => (if t207 ≤ t209 then (laws_FnWeights.j1 kj6 t193 t194 t197 t198 t199 true) else ((impl_StepOf.f (wrap64 (t205 + 1))).bind fun t210 => (laws_FnWeights.j1 kj6 t193 t194 t197 t198 t199 (decide (t208 ≥ t210)))))) else (laws_FnWeights.j1 kj6 t193 t194 t197 t198 t199 false)) else (laws_FnWeights.j1 kj6 t193 t194 t197 t198 t199 true)))) = some r := by rw [if_pos rfl] at H; exact H
              clear H
              have H := H1
              clear H1
              replace H := Option.bind_eq_some_iff.mp H
              obtain ⟨t207, A230, H⟩ := H
              replace H : ((impl_StepOf.f t205).bind fun t208 => (if (wrap64 (t207 * t208)) = 48 then (if t205 < 4 then ((impl_WeightOf.f (wrap64 (t205 + 1))).bind fun t209 => (if t207 ≤ t209 then (laws_FnWeights.j1 kj6 t193 t194 t197 t198 t199 true) else ((impl_StepOf.f (wrap64 (t205 + 1))).bind fun t210 => (laws_FnWeights.j1 kj6 t193 t194 t197 t198 t199 (decide (t208 ≥ t210)))))) else (laws_FnWeights.j1 kj6 t193 t194 t197 t198 t199 false)) else (laws_FnWeights.j1 kj6 t193 t194 t197 t198 t199 true))) = some r := H
              have A23 := Aside0.mk A230
              clear A230
              replace H := Option.bind_eq_some_iff.mp H
              obtain ⟨t208, A240, H⟩ := H
              replace H : (if (wrap64 (t207 * t208)) = 48 then (if t205 < 4 then ((impl_WeightOf.f (wrap64 (t205 + 1))).bind fun t209 => (if t207 ≤ t209 then (laws_FnWeights.j1 kj6 t193 t194 t197 t198 t199 true) else ((impl_StepOf.f (wrap64 (t205 + 1))).bind fun t210 => (laws_FnWeights.j1 kj6 t193 t194 t197 t198 t199 (decide (t208 ≥ t210)))))) else (laws_FnWeights.j1 kj6 t193 t194 t197 t198 t199 false)) else (laws_FnWeights.j1 kj6 t193 t194 t197 t198 t199 true)) = some r := H
              have A24 := Aside0.mk A240
              clear A240
              by_cases c25 : (wrap64 (t207 * t208)) = 48
              · rw [if_pos c25] at H
                have c25b0 : ((wrap64 (t207 * t208)) == 48) = true := beq_iff_eq.mpr c25
                have c25b1 : ((wrap64 (t207 * t208)) != 48) = false := bne_eq_false_iff_eq.mpr c25
                clear c25
                (first | rw [c25b0] | (simp only [i64_w, i32_w]; rw [c25b0]) | skip)
                by_cases c26 : t205 < 4
                · rw [if_pos c26] at H
                  have c26b0 : decide (t205 < 4) = true := decide_eq_true c26
                  clear c26
                  replace H := Option.bind_eq_some_iff.mp H
                  obtain ⟨t209, A270, H⟩ := H
                  replace H : (if t207 ≤ t209 then (laws_FnWeights.j1 kj6 t193 t194 t197 t198 t199 true) else ((impl_StepOf.f (wrap64 (t205 + 1))).bind fun t210 => (laws_FnWeights.j1 kj6 t193 t194 t197 t198 t199 (decide (t208 ≥ t210))))) = some r := H
                  have A27 := Aside0.mk A270
                  clear A270
                  by_cases c28 : t207 ≤ t209
                  · rw [if_pos c28] at H
                    have c28b0 : decide (t207 ≤ t209) = true := decide_eq_true c28
                    clear c28
                    have H' := Aside0.mk H
                    clear H
                    go_wp2_with (first | ((with_reducible refine gate_callee (f := 19) rfl ?_); refine goesL_ (some 58) rfl rfl Try.func19 (by kernel_rfl) rfl #[.int .i64 t205] rfl (by (try simp only [List.map_toArray, List.map_cons, List.map_nil]); first | done | rfl | (simp only [List.length_drop, List.length_take]; rfl)) ?_; (with_reducible refine (impl_NiceOk.calls t205 true _ A21.out).mono ?_); rintro e w' ⟨rfl, ⟨nd, rfl⟩⟩; refine ⟨_, rfl, ?_⟩) | (go_at_call 22; (with_reducible refine (impl_WeightOf.calls t205 t207 _ A23.out).mono ?_); rintro e w29 ⟨rfl, hb⟩; have n0_ := Aside0.mk (Kd.R_below (by (with_reducible repeat (first | apply Kd.R_alloc | apply Kd.R_drewN | apply Kd.R_drew)); exact HO_4.out) hb); have n1_ := Aside0.mk (below_step (by repeat (first | (with_reducible first | exact HB.out | apply below_alloc | apply pw_below_drewN | apply below_drew1) | exact HB.out)) hb); clear HO_4; clear HB; have HO_4 := n0_; have HB := n1_; clear n0_ n1_; (try clear hb); (try clear hb2); (try clear hk); (try clear hi)) | (go_at_call 23; (with_reducible refine (impl_StepOf.calls t205 t208 _ A24.out).mono ?_); rintro e w30 ⟨rfl, hb⟩; have n0_ := Aside0.mk (Kd.R_below (by (with_reducible repeat (first | apply Kd.R_alloc | apply Kd.R_drewN | apply Kd.R_drew)); exact HO_4.out) hb); have n1_ := Aside0.mk (below_step (by repeat (first | (with_reducible first | exact HB.out | apply below_alloc | apply pw_below_drewN | apply below_drew1) | exact HB.out)) hb); clear HO_4; clear HB; have HO_4 := n0_; have HB := n1_; clear n0_ n1_; (try clear hb); (try clear hb2); (try clear hk); (try clear hi)) | (go_at_call 22; (with_reducible refine (impl_WeightOf.calls (wrap64 (t205 + 1)) t209 _ A27.out).mono ?_); rintro e w31 ⟨rfl, hb⟩; have n0_ := Aside0.mk (Kd.R_below (by (with_reducible repeat (first | apply Kd.R_alloc | apply Kd.R_drewN | apply Kd.R_drew)); exact HO_4.out) hb); have n1_ := Aside0.mk (below_step (by repeat (first | (with_reducible first | exact HB.out | apply below_alloc | apply pw_below_drewN | apply below_drew1) | exact HB.out)) hb); clear HO_4; clear HB; have HO_4 := n0_; have HB := n1_; clear n0_ n1_; (try clear hb); (try clear hb2); (try clear hk); (try clear hi)))
                    go_meet
                    case rel => exact ⟨_, (true), (by first | rfl | (simp; done) | (simp [*]; done)), H', ⟨by have := HJ6.out; first | omega | exact Nat.le_refl _⟩, ⟨by (with_reducible repeat (first | apply Kd.R_alloc | apply Kd.R_drewN | apply Kd.R_drew)); exact HO_4.out⟩, ⟨by repeat (first | (with_reducible first | exact HB.out | apply below_alloc | apply pw_below_drewN | apply below_drew1) | exact HB.out)⟩⟩
                  · rw [if_neg c28] at H
                    have c28b0 : decide (t207 ≤ t209) = false := decide_eq_false c28
                    clear c28
                    replace H := Option.bind_eq_some_iff.mp H
                    obtain ⟨t210, A320, H⟩ := H
                    replace H : (laws_FnWeights.j1 kj6 t193 t194 t197 t198 t199 (decide (t208 ≥ t210))) = some r := H
                    have A32 := Aside0.mk A320
                    clear A320
                    have H' := Aside0.mk H
                    clear H
                    go_wp2_with (first | ((with_reducible refine gate_callee (f := 19) rfl ?_); refine goesL_ (some 58) rfl rfl Try.func19 (by kernel_rfl) rfl #[.int .i64 t205] rfl (by (try simp only [List.map_toArray, List.map_cons, List.map_nil]); first | done | rfl | (simp only [List.length_drop, List.length_take]; rfl)) ?_; (with_reducible refine (impl_NiceOk.calls t205 true _ A21.out).mono ?_); rintro e w' ⟨rfl, ⟨nd, rfl⟩⟩; refine ⟨_, rfl, ?_⟩) | (go_at_call 22; (with_reducible refine (impl_WeightOf.calls t205 t207 _ A23.out).mono ?_); rintro e w33 ⟨rfl, hb⟩; have n0_ := Aside0.mk (Kd.R_below (by (with_reducible repeat (first | apply Kd.R_alloc | apply Kd.R_drewN | apply Kd.R_drew)); exact HO_4.out) hb); have n1_ := Aside0.mk (below_step (by repeat (first | (with_reducible first | exact HB.out | apply below_alloc | apply pw_below_drewN | apply below_drew1) | exact HB.out)) hb); clear HO_4; clear HB; have HO_4 := n0_; have HB := n1_; clear n0_ n1_; (try clear hb); (try clear hb2); (try clear hk); (try clear hi)) | (go_at_call 23; (with_reducible refine (impl_StepOf.calls t205 t208 _ A24.out).mono ?_); rintro e w34 ⟨rfl, hb⟩; have n0_ := Aside0.mk (Kd.R_below (by (with_reducible repeat (first | apply Kd.R_alloc | apply Kd.R_drewN | apply Kd.R_drew)); exact HO_4.out) hb); have n1_ := Aside0.mk (below_step (by repeat (first | (with_reducible first | exact HB.out | apply below_alloc | apply pw_below_drewN | apply below_drew1) | exact HB.out)) hb); clear HO_4; clear HB; have HO_4 := n0_; have HB := n1_; clear n0_ n1_; (try clear hb); (try clear hb2); (try clear hk); (try clear hi)) | (go_at_call 22; (with_reducible refine (impl_WeightOf.calls (wrap64 (t205 + 1)) t209 _ A27.out).mono ?_); rintro e w35 ⟨rfl, hb⟩; have n0_ := Aside0.mk (Kd.R_below (by (with_reducible repeat (first | apply Kd.R_alloc | apply Kd.R_drewN | apply Kd.R_drew)); exact HO_4.out) hb); have n1_ := Aside0.mk (below_step (by repeat (first | (with_reducible first | exact HB.out | apply below_alloc | apply pw_below_drewN | apply below_drew1) | exact HB.out)) hb); clear HO_4; clear HB; have HO_4 := n0_; have HB := n1_; clear n0_ n1_; (try clear hb); (try clear hb2); (try clear hk); (try clear hi)) | (go_at_call 23; (with_reducible refine (impl_StepOf.calls (wrap64 (t205 + 1)) t210 _ A32.out).mono ?_); rintro e w36 ⟨rfl, hb⟩; have n0_ := Aside0.mk (Kd.R_below (by (with_reducible repeat (first | apply Kd.R_alloc | apply Kd.R_drewN | apply Kd.R_drew)); exact HO_4.out) hb); have n1_ := Aside0.mk (below_step (by repeat (first | (with_reducible first | exact HB.out | apply below_alloc | apply pw_below_drewN | apply below_drew1) | exact HB.out)) hb); clear HO_4; clear HB; have HO_4 := n0_; have HB := n1_; clear n0_ n1_; (try clear hb); (try clear hb2); (try clear hk); (try clear hi)))
                    go_meet
                    case rel => exact ⟨_, (decide (t208 ≥ t210)), (by first | rfl | (simp; done) | (simp [*]; done)), H', ⟨by have := HJ6.out; first | omega | exact Nat.le_refl _⟩, ⟨by (with_reducible repeat (first | apply Kd.R_alloc | apply Kd.R_drewN | apply Kd.R_drew)); exact HO_4.out⟩, ⟨by repeat (first | (with_reducible first | exact HB.out | apply below_alloc | apply pw_below_drewN | apply below_drew1) | exact HB.out)⟩⟩
                · rw [if_neg c26] at H
                  have c26b0 : decide (t205 < 4) = false := decide_eq_false c26
                  clear c26
                  have H' := Aside0.mk H
                  clear H
                  go_wp2_with (first | ((with_reducible refine gate_callee (f := 19) rfl ?_); refine goesL_ (some 58) rfl rfl Try.func19 (by kernel_rfl) rfl #[.int .i64 t205] rfl (by (try simp only [List.map_toArray, List.map_cons, List.map_nil]); first | done | rfl | (simp only [List.length_drop, List.length_take]; rfl)) ?_; (with_reducible refine (impl_NiceOk.calls t205 true _ A21.out).mono ?_); rintro e w' ⟨rfl, ⟨nd, rfl⟩⟩; refine ⟨_, rfl, ?_⟩) | (go_at_call 22; (with_reducible refine (impl_WeightOf.calls t205 t207 _ A23.out).mono ?_); rintro e w37 ⟨rfl, hb⟩; have n0_ := Aside0.mk (Kd.R_below (by (with_reducible repeat (first | apply Kd.R_alloc | apply Kd.R_drewN | apply Kd.R_drew)); exact HO_4.out) hb); have n1_ := Aside0.mk (below_step (by repeat (first | (with_reducible first | exact HB.out | apply below_alloc | apply pw_below_drewN | apply below_drew1) | exact HB.out)) hb); clear HO_4; clear HB; have HO_4 := n0_; have HB := n1_; clear n0_ n1_; (try clear hb); (try clear hb2); (try clear hk); (try clear hi)) | (go_at_call 23; (with_reducible refine (impl_StepOf.calls t205 t208 _ A24.out).mono ?_); rintro e w38 ⟨rfl, hb⟩; have n0_ := Aside0.mk (Kd.R_below (by (with_reducible repeat (first | apply Kd.R_alloc | apply Kd.R_drewN | apply Kd.R_drew)); exact HO_4.out) hb); have n1_ := Aside0.mk (below_step (by repeat (first | (with_reducible first | exact HB.out | apply below_alloc | apply pw_below_drewN | apply below_drew1) | exact HB.out)) hb); clear HO_4; clear HB; have HO_4 := n0_; have HB := n1_; clear n0_ n1_; (try clear hb); (try clear hb2); (try clear hk); (try clear hi)))
                  go_meet
                  case rel => exact ⟨_, (false), (by first | rfl | (simp; done) | (simp [*]; done)), H', ⟨by have := HJ6.out; first | omega | exact Nat.le_refl _⟩, ⟨by (with_reducible repeat (first | apply Kd.R_alloc | apply Kd.R_drewN | apply Kd.R_drew)); exact HO_4.out⟩, ⟨by repeat (first | (with_reducible first | exact HB.out | apply below_alloc | apply pw_below_drewN | apply below_drew1) | exact HB.out)⟩⟩
              · rw [if_neg c25] at H
                have c25b0 : ((wrap64 (t207 * t208)) == 48) = false := beq_eq_false_iff_ne.mpr c25
                have c25b1 : ((wrap64 (t207 * t208)) != 48) = true := bne_iff_ne.mpr c25
                (first | rw [c25b0] | (simp only [i64_w, i32_w]; rw [c25b0]) | skip)
                have H' := Aside0.mk H
                clear H
                go_wp2_with (first | ((with_reducible refine gate_callee (f := 19) rfl ?_); refine goesL_ (some 58) rfl rfl Try.func19 (by kernel_rfl) rfl #[.int .i64 t205] rfl (by (try simp only [List.map_toArray, List.map_cons, List.map_nil]); first | done | rfl | (simp only [List.length_drop, List.length_take]; rfl)) ?_; (with_reducible refine (impl_NiceOk.calls t205 true _ A21.out).mono ?_); rintro e w' ⟨rfl, ⟨nd, rfl⟩⟩; refine ⟨_, rfl, ?_⟩) | (go_at_call 22; (with_reducible refine (impl_WeightOf.calls t205 t207 _ A23.out).mono ?_); rintro e w39 ⟨rfl, hb⟩; have n0_ := Aside0.mk (Kd.R_below (by (with_reducible repeat (first | apply Kd.R_alloc | apply Kd.R_drewN | apply Kd.R_drew)); exact HO_4.out) hb); have n1_ := Aside0.mk (below_step (by repeat (first | (with_reducible first | exact HB.out | apply below_alloc | apply pw_below_drewN | apply below_drew1) | exact HB.out)) hb); clear HO_4; clear HB; have HO_4 := n0_; have HB := n1_; clear n0_ n1_; (try clear hb); (try clear hb2); (try clear hk); (try clear hi)) | (go_at_call 23; (with_reducible refine (impl_StepOf.calls t205 t208 _ A24.out).mono ?_); rintro e w40 ⟨rfl, hb⟩; have n0_ := Aside0.mk (Kd.R_below (by (with_reducible repeat (first | apply Kd.R_alloc | apply Kd.R_drewN | apply Kd.R_drew)); exact HO_4.out) hb); have n1_ := Aside0.mk (below_step (by repeat (first | (with_reducible first | exact HB.out | apply below_alloc | apply pw_below_drewN | apply below_drew1) | exact HB.out)) hb); clear HO_4; clear HB; have HO_4 := n0_; have HB := n1_; clear n0_ n1_; (try clear hb); (try clear hb2); (try clear hk); (try clear hi)))
                go_meet
                case rel => exact ⟨_, (true), (by first | rfl | (simp; done) | (simp [*]; done)), H', ⟨by have := HJ6.out; first | omega | exact Nat.le_refl _⟩, ⟨by (with_reducible repeat (first | apply Kd.R_alloc | apply Kd.R_drewN | apply Kd.R_drew)); exact HO_4.out⟩, ⟨by repeat (first | (with_reducible first | exact HB.out | apply below_alloc | apply pw_below_drewN | apply below_drew1) | exact HB.out)⟩⟩
            · replace c22 := Bool.eq_false_iff.mpr c22
              subst c22
              have H1 : (laws_FnWeights.j1 kj6 t193 t194 t197 t198 t199 false) = some r := by rw [if_neg (show ¬ (false = true) by decide)] at H; exact H
              clear H
              have H := H1
              clear H1
              have H' := Aside0.mk H
              clear H
              go_wp2_with (first | ((with_reducible refine gate_callee (f := 19) rfl ?_); refine goesL_ (some 58) rfl rfl Try.func19 (by kernel_rfl) rfl #[.int .i64 t205] rfl (by (try simp only [List.map_toArray, List.map_cons, List.map_nil]); first | done | rfl | (simp only [List.length_drop, List.length_take]; rfl)) ?_; (with_reducible refine (impl_NiceOk.calls t205 false _ A21.out).mono ?_); rintro e w' ⟨rfl, ⟨nd, rfl⟩⟩; refine ⟨_, rfl, ?_⟩))
              go_meet
              case rel => exact ⟨_, (false), (by first | rfl | (simp; done) | (simp [*]; done)), H', ⟨by have := HJ6.out; first | omega | exact Nat.le_refl _⟩, ⟨by (with_reducible repeat (first | apply Kd.R_alloc | apply Kd.R_drewN | apply Kd.R_drew)); exact HO_4.out⟩, ⟨by repeat (first | (with_reducible first | exact HB.out | apply below_alloc | apply pw_below_drewN | apply below_drew1) | exact HB.out)⟩⟩
          case rest =>
            clear HC19
            try clear c1
            try clear c2
            try clear p2
            try clear c3
            try clear p6
            try clear c12
            try clear c12b0
            try clear c12b1
            try clear c12b2
            try clear c13
            try clear c13b0
            try clear c13b1
            try clear c14
            try clear c14b0
            try clear c14b1
            try clear c15
            try clear c16
            try clear c17
            try clear c18
            try clear c19
            try clear c21
            try clear c22
            try clear c25
            try clear c25b0
            try clear c25b1
            try clear c26
            try clear c26b0
            try clear c28
            try clear c28b0
            try clear p2
            obtain ⟨kq, x86_18, rfl, HA, HJ18, HO_4, HB⟩ := hcut
            cases kq with
            | zero => exact absurd HA.out (by simp [laws_FnWeights.j1])
            | succ kj18 =>
              have H := HA.out
              clear HA
              simp only [laws_FnWeights.j1] at H
              by_cases c41 : x86_18 = true
              · subst c41
                have H1 : (some false) = some r := by rw [if_pos rfl] at H; exact H
                clear H
                have H := H1
                clear H1
                obtain rfl := Option.some.inj H
                go_wp2
                go_ret
                exact ⟨by first | rfl | (simp [errW_none, errW_some] <;> rfl) | (simp [*, errW_none, errW_some] <;> rfl), by repeat (first | (with_reducible first | exact HB.out | apply below_alloc | apply pw_below_drewN | apply below_drew1) | exact HB.out)⟩
              · replace c41 := Bool.eq_false_iff.mpr c41
                subst c41
                have H1 : (if t199 = true then (laws_FnWeights.l0 kj18 t193 t194 t197 t198 0 0) else (if t197 = 0 then (some (t198 == 0)) else (some false))) = some r := by rw [if_neg (show ¬ (false = true) by decide)] at H; exact H
                clear H
                have H := H1
                clear H1
                by_cases c42 : t199 = true
                · subst c42
                  have H1 : (laws_FnWeights.l0 kj18 t193 t194 t197 t198 0 0) = some r := by rw [if_pos rfl] at H; exact H
                  clear H
                  have H := H1
                  clear H1
                  have H' := Aside0.mk H
                  clear H
                  go_wp2
                  go_loopg [12, 13] kj18 (fun kq v12 v13 w' => ∃ (x12_3 : Int) (x13_3 : Int), v12 = .int .i64 x12_3 ∧ v13 = .int .i64 x13_3 ∧ Aside0 (laws_FnWeights.l0 kq t193 t194 t197 t198 x12_3 x13_3 = some r) ∧ Aside0 (kq ≤ kj18) ∧ Aside0 (Kd.R (Kd.int .i64) 3 w' w.heap.size (fun _ => True) (.slice Ao9 t194.length co9) t194) ∧ Aside0 (Below w.heap.size w w'))
                  case atStart => exact ⟨(0), (0), (by first | rfl | (simp; done) | (simp [*]; done)), (by first | rfl | (simp; done) | (simp [*]; done)), H', ⟨Nat.le_refl _⟩, ⟨by (with_reducible repeat (first | apply Kd.R_alloc | apply Kd.R_drewN | apply Kd.R_drew)); exact HO_4.out⟩, ⟨by repeat (first | (with_reducible first | exact HB.out | apply below_alloc | apply pw_below_drewN | apply below_drew1) | exact HB.out)⟩⟩
                  case round =>
                    clear H'
                    try clear c1
                    try clear c2
                    try clear p2
                    try clear c3
                    try clear c4
                    try clear p6
                    try clear c12
                    try clear c12b0
                    try clear c12b1
                    try clear c12b2
                    try clear c13
                    try clear c13b0
                    try clear c13b1
                    try clear c14
                    try clear c14b0
                    try clear c14b1
                    try clear c15
                    try clear c16
                    try clear c17
                    try clear c18
                    try clear c19
                    try clear c21
                    try clear c22
                    try clear c25
                    try clear c25b0
                    try clear c25b1
                    try clear c26
                    try clear c26b0
                    try clear c28
                    try clear c28b0
                    try clear c41
                    try clear c42
                    try clear p2
                    try clear p6
                    obtain ⟨x12_3, x13_3, rfl, rfl, HA, HK3, HO_4, HB⟩ := hrel
                    cases gk with
                    | zero => exact absurd HA.out (by simp [laws_FnWeights.l0])
                    | succ k3 =>
                      have H := HA.out
                      clear HA
                      simp only [laws_FnWeights.l0] at H
                      by_cases c43 : x13_3 < (t194.length : Int)
                      · rw [if_pos c43] at H
                        have c43b0 : decide (x13_3 < (t194.length : Int)) = true := decide_eq_true c43
                        clear c43
                        by_cases c44 : 0 ≤ x13_3
                        · rw [if_pos c44] at H
                          have c44b0 : decide (0 ≤ x13_3) = true := decide_eq_true c44
                          clear c44
                          replace H := Option.bind_eq_some_iff.mp H
                          obtain ⟨t212, A450, H⟩ := H
                          replace H : (laws_FnWeights.l0 k3 t193 t194 t197 t198 (wrap64 (x12_3 + t212)) (wrap64 (x13_3 + 1))) = some r := H
                          have A45 := Aside0.mk A450
                          clear A450
                          have H' := Aside0.mk H
                          clear H
                          have p211 : 0 ≤ (x13_3 : Int) := of_decide_eq_true (by first | (with_reducible assumption) | assumption)
                          have q211 : x13_3 < (t194.length : Int) := of_decide_eq_true (by first | (with_reducible assumption) | assumption)
                          obtain ⟨ad211, e211, hx211_0⟩ := Kd.at_int (Kd.R_reads' HO_4.out).2.2 x13_3 p211 q211
                          cases e211
                          replace p211 := eq_true p211
                          replace q211 := eq_true q211
                          go_wp2_with (first | ((with_reducible refine gate_callee (f := 22) rfl ?_); refine goesL_ (some 106) rfl rfl Try.func22 (by kernel_rfl) rfl #[.int .i64 (rd t194 x13_3)] rfl (by (try simp only [List.map_toArray, List.map_cons, List.map_nil]); first | done | rfl | (simp only [List.length_drop, List.length_take]; rfl)) ?_; (with_reducible refine (impl_WeightOf.calls (rd t194 x13_3) t212 _ A45.out).mono ?_); rintro e w46 ⟨rfl, hb⟩; refine ⟨_, rfl, ?_⟩; have n0_ := Aside0.mk (Kd.R_below (by (with_reducible repeat (first | apply Kd.R_alloc | apply Kd.R_drewN | apply Kd.R_drew)); exact HO_4.out) hb); have n1_ := Aside0.mk (below_step (by repeat (first | (with_reducible first | exact HB.out | apply below_alloc | apply pw_below_drewN | apply below_drew1) | exact HB.out)) hb); clear HO_4; clear HB; have HO_4 := n0_; have HB := n1_; clear n0_ n1_; (try clear hb); (try clear hb2); (try clear hk); (try clear hi)))
                          go_roundg k3
                          case measure => have := HJ6.out; have := HJ18.out; have := HK3.out; omega
                          case rel => exact ⟨(wrap64 (x12_3 + t212)), (wrap64 (x13_3 + 1)), (by first | rfl | (simp; done) | (simp [*]; done)), (by first | rfl | (simp; done) | (simp [*]; done)), H', ⟨by have := HJ6.out; have := HJ18.out; have := HK3.out; omega⟩, ⟨by (with_reducible repeat (first | apply Kd.R_alloc | apply Kd.R_drewN | apply Kd.R_drew)); exact HO_4.out⟩, ⟨by repeat (first | (with_reducible first | exact HB.out | apply below_alloc | apply pw_below_drewN | apply below_drew1) | exact HB.out)⟩⟩
                        · rw [if_neg c44] at H
                          exact absurd H (by simp)
                      · rw [if_neg c43] at H
                        have c43b0 : decide (x13_3 < (t194.length : Int)) = false := decide_eq_false c43
                        clear c43
                        replace H := Option.bind_eq_some_iff.mp H
                        obtain ⟨t213, A470, H⟩ := H
                        replace H : (if t197 = t213 then (some (t198 == (wrap64 (t197 + x12_3)))) else (some false)) = some r := H
                        have A47 := Aside0.mk A470
                        clear A470
                        by_cases c48 : t197 = t213
                        · rw [if_pos c48] at H
                          have c48b0 : (t197 == t213) = true := beq_iff_eq.mpr c48
                          have c48b1 : (t197 != t213) = false := bne_eq_false_iff_eq.mpr c48
                          clear c48
                          obtain rfl := Option.some.inj H
                          go_wp2_with (first | ((with_reducible refine gate_callee (f := 22) rfl ?_); refine goesL_ (some 110) rfl rfl Try.func22 (by kernel_rfl) rfl #[.int .i64 t193] rfl (by (try simp only [List.map_toArray, List.map_cons, List.map_nil]); first | done | rfl | (simp only [List.length_drop, List.length_take]; rfl)) ?_; (with_reducible refine (impl_WeightOf.calls t193 t213 _ A47.out).mono ?_); rintro e w49 ⟨rfl, hb⟩; refine ⟨_, rfl, ?_⟩; have n0_ := Aside0.mk (Kd.R_below (by (with_reducible repeat (first | apply Kd.R_alloc | apply Kd.R_drewN | apply Kd.R_drew)); exact HO_4.out) hb); have n1_ := Aside0.mk (below_step (by repeat (first | (with_reducible first | exact HB.out | apply below_alloc | apply pw_below_drewN | apply below_drew1) | exact HB.out)) hb); clear HO_4; clear HB; have HO_4 := n0_; have HB := n1_; clear n0_ n1_; (try clear hb); (try clear hb2); (try clear hk); (try clear hi)))
                          go_ret
                          exact ⟨by first | rfl | (simp [errW_none, errW_some] <;> rfl) | (simp [*, errW_none, errW_some] <;> rfl), by repeat (first | (with_reducible first | exact HB.out | apply below_alloc | apply pw_below_drewN | apply below_drew1) | exact HB.out)⟩
                        · rw [if_neg c48] at H
                          have c48b0 : (t197 == t213) = false := beq_eq_false_iff_ne.mpr c48
                          have c48b1 : (t197 != t213) = true := bne_iff_ne.mpr c48
                          obtain rfl := Option.some.inj H
                          go_wp2_with (first | ((with_reducible refine gate_callee (f := 22) rfl ?_); refine goesL_ (some 110) rfl rfl Try.func22 (by kernel_rfl) rfl #[.int .i64 t193] rfl (by (try simp only [List.map_toArray, List.map_cons, List.map_nil]); first | done | rfl | (simp only [List.length_drop, List.length_take]; rfl)) ?_; (with_reducible refine (impl_WeightOf.calls t193 t213 _ A47.out).mono ?_); rintro e w50 ⟨rfl, hb⟩; refine ⟨_, rfl, ?_⟩; have n0_ := Aside0.mk (Kd.R_below (by (with_reducible repeat (first | apply Kd.R_alloc | apply Kd.R_drewN | apply Kd.R_drew)); exact HO_4.out) hb); have n1_ := Aside0.mk (below_step (by repeat (first | (with_reducible first | exact HB.out | apply below_alloc | apply pw_below_drewN | apply below_drew1) | exact HB.out)) hb); clear HO_4; clear HB; have HO_4 := n0_; have HB := n1_; clear n0_ n1_; (try clear hb); (try clear hb2); (try clear hk); (try clear hi)))
                          go_ret
                          exact ⟨by first | rfl | (simp [errW_none, errW_some] <;> rfl) | (simp [*, errW_none, errW_some] <;> rfl), by repeat (first | (with_reducible first | exact HB.out | apply below_alloc | apply pw_below_drewN | apply below_drew1) | exact HB.out)⟩
                · replace c42 := Bool.eq_false_iff.mpr c42
                  subst c42
                  have H1 : (if t197 = 0 then (some (t198 == 0)) else (some false)) = some r := by rw [if_neg (show ¬ (false = true) by decide)] at H; exact H
                  clear H
                  have H := H1
                  clear H1
                  by_cases c51 : t197 = 0
                  · rw [if_pos c51] at H
                    have c51b0 : (t197 == 0) = true := beq_iff_eq.mpr c51
                    have c51b1 : (t197 != 0) = false := bne_eq_false_iff_eq.mpr c51
                    clear c51
                    obtain rfl := Option.some.inj H
                    go_wp2
                    go_ret
                    exact ⟨by first | rfl | (simp [errW_none, errW_some] <;> rfl) | (simp [*, errW_none, errW_some] <;> rfl), by repeat (first | (with_reducible first | exact HB.out | apply below_alloc | apply pw_below_drewN | apply below_drew1) | exact HB.out)⟩
                  · rw [if_neg c51] at H
                    have c51b0 : (t197 == 0) = false := beq_eq_false_iff_ne.mpr c51
                    have c51b1 : (t197 != 0) = true := bne_iff_ne.mpr c51
                    obtain rfl := Option.some.inj H
                    go_wp2
                    go_ret
                    exact ⟨by first | rfl | (simp [errW_none, errW_some] <;> rfl) | (simp [*, errW_none, errW_some] <;> rfl), by repeat (first | (with_reducible first | exact HB.out | apply below_alloc | apply pw_below_drewN | apply below_drew1) | exact HB.out)⟩

/-- THE ONE PURE STATEMENT of laws_FnWeights: yours. -/
def laws_FnWeights.Pure : Prop := ∀ (l0 : List Int), l0.length ≤ maxLen → l0.length * 1 ≤ 140737488351232 → (∀ x ∈ l0, (Lit.int .u8 x).wf = true) → ∃ k, laws_FnWeights.f k l0 = some true
theorem laws_FnWeights.walk (P : laws_FnWeights.Pure) (a0 : Option Addr) (len0 cap0 : Nat) (z0 : List Int) (w : World) (w0 : (a0 = none ∧ len0 = 0 ∧ cap0 = 0 ∧ z0 = []) ∨ ∃ x, a0 = some x ∧ len0 ≤ cap0 ∧ cap0 ≤ maxLen ∧ z0.length = cap0 ∧ (∀ i, i < z0.length → w.cell? (x.add i) = some (.int .u8 (z0.getD i 0))) ∧ ∀ n ∈ z0, (Lit.int .u8 n).wf = true) (y0 : len0 * 1 ≤ 140737488351232) :
    Calls Try.prog 3 #[.slice a0 len0 cap0] w fun e w' => e = .returned (.bool true) ∧ Below w.heap.size w w' := by
  obtain ⟨l0, rfl, hr0, hm0, hw0, hc0⟩ := ReadsInt.ofRowC w0
  obtain ⟨k, h⟩ := P l0 hm0 y0 hw0
  refine (laws_FnWeights.calls k _ _ l0 true w (Kd.C_of_reads (d := (0 : Int)) (h1 := fun _ => rfl) hr0) hc0 h).mono ?_
  rintro e w' ⟨rfl, hd⟩
  exact ⟨rfl, hd⟩

end Go.Proofs.Ytnokdjkkgcpbdaa.Print
