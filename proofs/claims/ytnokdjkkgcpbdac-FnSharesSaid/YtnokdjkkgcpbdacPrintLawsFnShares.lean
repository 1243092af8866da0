/- Go functions as plain Lean functions, and that the Go code answers just as these, wherever they answer. Conditions: those of each theorem. Written by a program of this session (wip/patch.py). -/
import Derived.Test.YtnokdjkkgcpbdacPrint0
import Derived.Test.YtnokdjkkgcpbdacPrintImplFits
import Derived.Test.YtnokdjkkgcpbdacPrintImplShare102
import Derived.Test.YtnokdjkkgcpbdacPrintLawsBig
import Derived.Test.YtnokdjkkgcpbdacPrintSpecFits
import Derived.Test.YtnokdjkkgcpbdacPrintSpecL1DrawShares
import Derived.Test.YtnokdjkkgcpbdacPrintSpecL1Gcd
namespace Go.Proofs.Ytnokdjkkgcpbdac.Print
open Go.RowKit Go.Proofs.Ytnokdjkkgcpbdac.Base Go.Proofs.YtnokdjkkgcpbdacW.PrintWords Go.Proofs.YtnokdjkkgcpbdacW.PrintLast Go.Proofs.YtnokdjkkgcpbdacW.PrintMore
attribute [local go_sem] max2_int min2_int max_two min_two max_three min_three max_four min_four   -- for this text's walks alone
set_option linter.unusedVariables false
set_option linter.unusedSimpArgs false

/-! ### laws_FnShares: function 9 -/
mutual
def laws_FnShares.j0 : Nat → List (S50) → Bool → Int → Int → Bool → Bool → Option (Bool)
  | 0, _, _, _, _, _, _ => none
  | k + 1, x3, x4, x5, x6, x7, x47 => if x47 = true then (some false) else (if x7 = true then (if x6 < 1 then (laws_FnShares.j1 k x3 x4 x5 true) else (if x5 < 0 then (laws_FnShares.j1 k x3 x4 x5 true) else ((impl_Gcd.f k x5 x6).bind fun t113 => (if t113 = 1 then (laws_FnShares.j1 k x3 x4 x5 (x4 != (decide (x5 ≤ x6)))) else (if x6 ≤ 1000000 then (if x5 ≤ 1000000 then (laws_FnShares.j1 k x3 x4 x5 true) else (laws_FnShares.j1 k x3 x4 x5 (x4 != (decide (x5 ≤ x6))))) else (laws_FnShares.j1 k x3 x4 x5 (x4 != (decide (x5 ≤ x6))))))))) else (if x4 = true then (some false) else (if x5 = 0 then (some (x6 == 0)) else (some false))))
def laws_FnShares.j1 : Nat → List (S50) → Bool → Int → Bool → Option (Bool)
  | 0, _, _, _, _ => none
  | k + 1, x3, x4, x5, x86 => if x86 = true then (some false) else (if (x3.length : Int) = 0 then (if x4 = true then (some (x5 == 0)) else (some false)) else (if x4 = true then (if 1 ≤ (x3.length : Int) then ((impl_Fits.f k (x3.drop 1)).bind fun t118 => (if t118 = true then (if 0 ≤ (wrap64 ((x3.length : Int) - 1)) then (if (wrap64 ((x3.length : Int) - 1)) ≤ (x3.length : Int) then ((impl_Fits.f k (x3.take ((wrap64 ((x3.length : Int) - 1)) : Int).toNat)).bind fun t123 => (some t123)) else (none)) else (none)) else (some false))) else (none)) else (some true)))
end
def laws_FnShares.f (k : Nat) (l0 : List Int) : Option (Bool) := (laws_big.f l0).bind fun t101 => (if t101 = true then (some true) else ((spec_DrawFits.f k l0).bind fun t102 => ((impl_Fits.f k t102).bind fun t105 => ((impl_SumOf.f k t102).bind fun bt106 => ((spec_SumOf.f k t102).bind fun bt109 => ((spec_Fits.f k t102).bind fun t112 => (if (t105 != t112) = true then (laws_FnShares.j0 k t102 t105 bt106.1 bt106.2.1 bt106.2.2 true) else (if (bt106.2.2 != bt109.2.2) = true then (laws_FnShares.j0 k t102 t105 bt106.1 bt106.2.1 bt106.2.2 true) else (if bt106.1 = bt109.1 then (laws_FnShares.j0 k t102 t105 bt106.1 bt106.2.1 bt106.2.2 (bt106.2.1 != bt109.2.1)) else (laws_FnShares.j0 k t102 t105 bt106.1 bt106.2.1 bt106.2.2 true))))))))))
theorem laws_FnShares.mono_l : ∀ k, (∀ y0 y1 y2 y3 y4 y5, LeO (laws_FnShares.j0 k y0 y1 y2 y3 y4 y5) (laws_FnShares.j0 (k + 1) y0 y1 y2 y3 y4 y5)) ∧ (∀ y0 y1 y2 y3, LeO (laws_FnShares.j1 k y0 y1 y2 y3) (laws_FnShares.j1 (k + 1) y0 y1 y2 y3))
  | 0 => ⟨fun _ _ _ _ _ _ r h => by simp [laws_FnShares.j0] at h, fun _ _ _ _ r h => by simp [laws_FnShares.j1] at h⟩
  | k + 1 => by
    obtain ⟨ih0, ih1⟩ := laws_FnShares.mono_l k
    refine ⟨?_, ?_⟩
    · intro y0 y1 y2 y3 y4 y5
      unfold laws_FnShares.j0
      repeat' first
      | (with_reducible exact ih0 _ _ _ _ _ _)
      | (with_reducible exact ih1 _ _ _ _)
      | (with_reducible exact impl_Fits.mono _ _)
      | (with_reducible exact impl_Gcd.mono _ _ _)
      | (with_reducible exact impl_SumOf.mono _ _)
      | (with_reducible exact spec_DrawFits.mono _ _)
      | (with_reducible exact spec_Fits.mono _ _)
      | (with_reducible exact spec_SumOf.mono _ _)
      | (with_reducible exact LeO.refl _)
      | (with_reducible exact LeO.none _)
      | (with_reducible refine LeO.ite ?_ ?_)
      | (with_reducible refine LeO.bind ?_ (fun _ => ?_))
      | exact ih0 _ _ _ _ _ _
      | exact ih1 _ _ _ _
      | exact impl_Fits.mono _ _
      | exact impl_Gcd.mono _ _ _
      | exact impl_SumOf.mono _ _
      | exact spec_DrawFits.mono _ _
      | exact spec_Fits.mono _ _
      | exact spec_SumOf.mono _ _
      | exact LeO.none _
      | refine LeO.ite ?_ ?_
      | refine LeO.bind ?_ (fun _ => ?_)
    intro y0 y1 y2 y3
    unfold laws_FnShares.j1
    repeat' first
    | (with_reducible exact ih0 _ _ _ _ _ _)
    | (with_reducible exact ih1 _ _ _ _)
    | (with_reducible exact impl_Fits.mono _ _)
    | (with_reducible exact impl_Gcd.mono _ _ _)
    | (with_reducible exact impl_SumOf.mono _ _)
    | (with_reducible exact spec_DrawFits.mono _ _)
    | (with_reducible exact spec_Fits.mono _ _)
    | (with_reducible exact spec_SumOf.mono _ _)
    | (with_reducible exact LeO.refl _)
    | (with_reducible exact LeO.none _)
    | (with_reducible refine LeO.ite ?_ ?_)
    | (with_reducible refine LeO.bind ?_ (fun _ => ?_))
    | exact ih0 _ _ _ _ _ _
    | exact ih1 _ _ _ _
    | exact impl_Fits.mono _ _
    | exact impl_Gcd.mono _ _ _
    | exact impl_SumOf.mono _ _
    | exact spec_DrawFits.mono _ _
    | exact spec_Fits.mono _ _
    | exact spec_SumOf.mono _ _
    | exact LeO.none _
    | refine LeO.ite ?_ ?_
    | refine LeO.bind ?_ (fun _ => ?_)
theorem laws_FnShares.mono : ∀ a0 k, LeO (laws_FnShares.f k a0) (laws_FnShares.f (k + 1) a0) := by
  intro a0 k
  obtain ⟨ih0, ih1⟩ := laws_FnShares.mono_l k
  unfold laws_FnShares.f
  repeat' first
      | (with_reducible exact ih0 _ _ _ _ _ _)
      | (with_reducible exact ih1 _ _ _ _)
      | (with_reducible exact impl_Fits.mono _ _)
      | (with_reducible exact impl_Gcd.mono _ _ _)
      | (with_reducible exact impl_SumOf.mono _ _)
      | (with_reducible exact spec_DrawFits.mono _ _)
      | (with_reducible exact spec_Fits.mono _ _)
      | (with_reducible exact spec_SumOf.mono _ _)
      | (with_reducible exact LeO.refl _)
      | (with_reducible exact LeO.none _)
      | (with_reducible refine LeO.ite ?_ ?_)
      | (with_reducible refine LeO.bind ?_ (fun _ => ?_))
      | exact ih0 _ _ _ _ _ _
      | exact ih1 _ _ _ _
      | exact impl_Fits.mono _ _
      | exact impl_Gcd.mono _ _ _
      | exact impl_SumOf.mono _ _
      | exact spec_DrawFits.mono _ _
      | exact spec_Fits.mono _ _
      | exact spec_SumOf.mono _ _
      | exact LeO.none _
      | refine LeO.ite ?_ ?_
      | refine LeO.bind ?_ (fun _ => ?_)
set_option maxHeartbeats 8000000 in
set_option maxRecDepth 100000 in
theorem laws_FnShares.calls (k : Nat) (A0 : Option Addr) (c0 : Nat) (l0 : List Int) (r : Bool) (w : World) (hr0 : Kd.C (Kd.int .u8) w A0 l0.length l0) (hc0 : l0.length ≤ c0) (h : laws_FnShares.f k l0 = some r) :
    Calls Try.prog 9 #[.slice A0 l0.length c0] w fun e w' => e = .returned (.bool r) ∧ Below w.heap.size w w' := by
  have HR0 := Aside0.mk hr0
  have HC0 := Aside0.mk hc0
  clear hr0 hc0
  have HB := aM (Below.refl w.heap.size w)
  have H : ((laws_big.f l0).bind fun t101 => (if t101 = true then (some true) else ((spec_DrawFits.f k l0).bind fun t102 => ((impl_Fits.f k t102).bind fun t105 => ((impl_SumOf.f k t102).bind fun bt106 => ((spec_SumOf.f k t102).bind fun bt109 => ((spec_Fits.f k t102).bind fun t112 => (if (t105 != t112) = true then (laws_FnShares.j0 k t102 t105 bt106.1 bt106.2.1 bt106.2.2 true) else (if (bt106.2.2 != bt109.2.2) = true then (laws_FnShares.j0 k t102 t105 bt106.1 bt106.2.1 bt106.2.2 true) else (if bt106.1 = bt109.1 then (laws_FnShares.j0 k t102 t105 bt106.1 bt106.2.1 bt106.2.2 (bt106.2.1 != bt109.2.1)) else (laws_FnShares.j0 k t102 t105 bt106.1 bt106.2.1 bt106.2.2 true))))))))))) = some r := h
  clear h
  replace H := Option.bind_eq_some_iff.mp H
  obtain ⟨t101, A20, H⟩ := H
  replace H : (if t101 = true then (some true) else ((spec_DrawFits.f k l0).bind fun t102 => ((impl_Fits.f k t102).bind fun t105 => ((impl_SumOf.f k t102).bind fun bt106 => ((spec_SumOf.f k t102).bind fun bt109 => ((spec_Fits.f k t102).bind fun t112 => (if (t105 != t112) = true then (laws_FnShares.j0 k t102 t105 bt106.1 bt106.2.1 bt106.2.2 true) else (if (bt106.2.2 != bt109.2.2) = true then (laws_FnShares.j0 k t102 t105 bt106.1 bt106.2.1 bt106.2.2 true) else (if bt106.1 = bt109.1 then (laws_FnShares.j0 k t102 t105 bt106.1 bt106.2.1 bt106.2.2 (bt106.2.1 != bt109.2.1)) else (laws_FnShares.j0 k t102 t105 bt106.1 bt106.2.1 bt106.2.2 true)))))))))) = some r := H
  have A2 := Aside0.mk A20
  clear A20
  by_cases c3 : t101 = true
  · subst c3
    have H1 : (some true) = some r := by rw [if_pos rfl] at H; exact H
    clear H
    have H := H1
    clear H1
    obtain rfl := Option.some.inj H
    go_enter Try.func9, Try.ntmps9
    go_wp2_with (first | ((with_reducible refine gate_callee (f := 15) rfl ?_); refine goesL_ (some 12) rfl rfl Try.func15 (by kernel_rfl) rfl #[.slice A0 l0.length c0] rfl (by (try simp only [List.map_toArray, List.map_cons, List.map_nil]); first | done | rfl | (simp only [List.length_drop, List.length_take]; rfl)) ?_; (with_reducible refine (laws_big.calls _ _ l0 true _ ?side1 ?side2 A2.out).mono ?_); (case side1 => repeat (first | exact HR0.out | (with_reducible refine Kd.C_alloc ?_ _) | (with_reducible refine Kd.C_drewN ?_ _) | (with_reducible refine Kd.C_drew ?_))); (case side2 => exact HC0.out); rintro e w' ⟨rfl, ⟨nd, rfl⟩⟩; refine ⟨_, rfl, ?_⟩))
    go_ret
    exact ⟨by first | rfl | (simp <;> rfl) | (simp [*] <;> rfl), by repeat (first | (with_reducible first | exact HB.out | apply beA | apply beD | apply bed) | exact HB.out)⟩
  replace c3 := Bool.eq_false_iff.mpr c3
  subst c3
  have H1 : ((spec_DrawFits.f k l0).bind fun t102 => ((impl_Fits.f k t102).bind fun t105 => ((impl_SumOf.f k t102).bind fun bt106 => ((spec_SumOf.f k t102).bind fun bt109 => ((spec_Fits.f k t102).bind fun t112 => (if (t105 != t112) = true then (laws_FnShares.j0 k t102 t105 bt106.1 bt106.2.1 bt106.2.2 true) else (if (bt106.2.2 != bt109.2.2) = true then (laws_FnShares.j0 k t102 t105 bt106.1 bt106.2.1 bt106.2.2 true) else (if bt106.1 = bt109.1 then (laws_FnShares.j0 k t102 t105 bt106.1 bt106.2.1 bt106.2.2 (bt106.2.1 != bt109.2.1)) else (laws_FnShares.j0 k t102 t105 bt106.1 bt106.2.1 bt106.2.2 true))))))))) = some r := by rw [if_neg (show ¬ (false = true) by decide)] at H; exact H
  clear H
  have H := H1
  clear H1
  replace H := Option.bind_eq_some_iff.mp H
  obtain ⟨t102, A40, H⟩ := H
  replace H : ((impl_Fits.f k t102).bind fun t105 => ((impl_SumOf.f k t102).bind fun bt106 => ((spec_SumOf.f k t102).bind fun bt109 => ((spec_Fits.f k t102).bind fun t112 => (if (t105 != t112) = true then (laws_FnShares.j0 k t102 t105 bt106.1 bt106.2.1 bt106.2.2 true) else (if (bt106.2.2 != bt109.2.2) = true then (laws_FnShares.j0 k t102 t105 bt106.1 bt106.2.1 bt106.2.2 true) else (if bt106.1 = bt109.1 then (laws_FnShares.j0 k t102 t105 bt106.1 bt106.2.1 bt106.2.2 (bt106.2.1 != bt109.2.1)) else (laws_FnShares.j0 k t102 t105 bt106.1 bt106.2.1 bt106.2.2 true)))))))) = some r := H
  have A4 := Aside0.mk A40
  clear A40
  replace H := Option.bind_eq_some_iff.mp H
  obtain ⟨t105, A50, H⟩ := H
  replace H : ((impl_SumOf.f k t102).bind fun bt106 => ((spec_SumOf.f k t102).bind fun bt109 => ((spec_Fits.f k t102).bind fun t112 => (if (t105 != t112) = true then (laws_FnShares.j0 k t102 t105 bt106.1 bt106.2.1 bt106.2.2 true) else (if (bt106.2.2 != bt109.2.2) = true then (laws_FnShares.j0 k t102 t105 bt106.1 bt106.2.1 bt106.2.2 true) else (if bt106.1 = bt109.1 then (laws_FnShares.j0 k t102 t105 bt106.1 bt106.2.1 bt106.2.2 (bt106.2.1 != bt109.2.1)) else (laws_FnShares.j0 k t102 t105 bt106.1 bt106.2.1 bt106.2.2 true))))))) = some r := H
  have A5 := Aside0.mk A50
  clear A50
  replace H := Option.bind_eq_some_iff.mp H
  obtain ⟨⟨t106, t107, t108⟩, A60, H⟩ := H
  replace H : ((spec_SumOf.f k t102).bind fun bt109 => ((spec_Fits.f k t102).bind fun t112 => (if (t105 != t112) = true then (laws_FnShares.j0 k t102 t105 t106 t107 t108 true) else (if (t108 != bt109.2.2) = true then (laws_FnShares.j0 k t102 t105 t106 t107 t108 true) else (if t106 = bt109.1 then (laws_FnShares.j0 k t102 t105 t106 t107 t108 (t107 != bt109.2.1)) else (laws_FnShares.j0 k t102 t105 t106 t107 t108 true)))))) = some r := H
  have A6 := Aside0.mk A60
  clear A60
  replace H := Option.bind_eq_some_iff.mp H
  obtain ⟨⟨t109, t110, t111⟩, A70, H⟩ := H
  replace H : ((spec_Fits.f k t102).bind fun t112 => (if (t105 != t112) = true then (laws_FnShares.j0 k t102 t105 t106 t107 t108 true) else (if (t108 != t111) = true then (laws_FnShares.j0 k t102 t105 t106 t107 t108 true) else (if t106 = t109 then (laws_FnShares.j0 k t102 t105 t106 t107 t108 (t107 != t110)) else (laws_FnShares.j0 k t102 t105 t106 t107 t108 true))))) = some r := H
  have A7 := Aside0.mk A70
  clear A70
  have HC8 := Aside0.mk H
  clear H
  go_enter Try.func9, Try.ntmps9
  go_upto_region 7 with (first | ((with_reducible refine gate_callee (f := 15) rfl ?_); refine goesL_ (some 12) rfl rfl Try.func15 (by kernel_rfl) rfl #[.slice A0 l0.length c0] rfl (by (try simp only [List.map_toArray, List.map_cons, List.map_nil]); first | done | rfl | (simp only [List.length_drop, List.length_take]; rfl)) ?_; (with_reducible refine (laws_big.calls _ _ l0 false _ ?side1 ?side2 A2.out).mono ?_); (case side1 => repeat (first | exact HR0.out | (with_reducible refine Kd.C_alloc ?_ _) | (with_reducible refine Kd.C_drewN ?_ _) | (with_reducible refine Kd.C_drew ?_))); (case side2 => exact HC0.out); rintro e w' ⟨rfl, ⟨nd, rfl⟩⟩; refine ⟨_, rfl, ?_⟩) | ((with_reducible refine gate_callee (f := 51) rfl ?_); refine goesL_ (some 14) rfl rfl Try.func51 (by kernel_rfl) rfl #[.slice A0 l0.length c0] rfl (by (try simp only [List.map_toArray, List.map_cons, List.map_nil]); first | done | rfl | (simp only [List.length_drop, List.length_take]; rfl)) ?_; (with_reducible refine (spec_DrawFits.calls k _ _ l0 t102 _ ?side1 ?side2 A4.out).mono ?_); (case side1 => repeat (first | exact HR0.out | (with_reducible refine Kd.C_alloc ?_ _) | (with_reducible refine Kd.C_drewN ?_ _) | (with_reducible refine Kd.C_drew ?_))); (case side2 => exact HC0.out); rintro e w9 ⟨v103, rfl, ho0, hb⟩; refine ⟨_, rfl, ?_⟩; have n0_ := aM (Kd.R_lower ho0 (below_size (by repeat (first | (with_reducible first | exact HB.out | apply beA | apply beD | apply bed) | exact HB.out)))); have n1_ := aM (below_step (by repeat (first | (with_reducible first | exact HB.out | apply beA | apply beD | apply bed) | exact HB.out)) hb); clear HB; have HO104 := n0_; have HB := n1_; clear n0_ n1_; (try clear hb); (try clear hb2); (try clear hk); (try clear hi); (try clear ho0); obtain ⟨Ao10, co10, eo10⟩ := Kd.R_slice HO104.out; subst eo10) | ((with_reducible refine gate_callee (f := 44) rfl ?_); refine goesL_ (some 16) rfl rfl Try.func44 (by kernel_rfl) rfl #[.slice Ao10 t102.length co10] rfl (by (try simp only [List.map_toArray, List.map_cons, List.map_nil]); first | done | rfl | (simp only [List.length_drop, List.length_take]; rfl)) ?_; (with_reducible refine (impl_Fits.calls k _ _ t102 t105 _ ?side1 ?side2 A5.out).mono ?_); (case side1 => repeat (first | exact (Kd.R_reads' HO104.out).2.2 | (with_reducible refine Kd.C_alloc ?_ _) | (with_reducible refine Kd.C_drewN ?_ _) | (with_reducible refine Kd.C_drew ?_))); (case side2 => exact (Kd.R_reads' HO104.out).2.1); rintro e w11 ⟨rfl, hb⟩; refine ⟨_, rfl, ?_⟩; have n0_ := aM (Kd.R_below (by (with_reducible repeat (first | apply Kd.R_alloc | apply Kd.R_drewN | apply Kd.R_drew)); exact HO104.out) hb); have n1_ := aM (below_step (by repeat (first | (with_reducible first | exact HB.out | apply beA | apply beD | apply bed) | exact HB.out)) hb); clear HO104; clear HB; have HO104 := n0_; have HB := n1_; clear n0_ n1_; (try clear hb); (try clear hb2); (try clear hk); (try clear hi)) | ((with_reducible refine gate_callee (f := 41) rfl ?_); refine goesL_ (some 19) rfl rfl Try.func41 (by kernel_rfl) rfl #[.slice Ao10 t102.length co10] rfl (by (try simp only [List.map_toArray, List.map_cons, List.map_nil]); first | done | rfl | (simp only [List.length_drop, List.length_take]; rfl)) ?_; (with_reducible refine (impl_SumOf.calls k _ _ t102 t106 t107 t108 _ ?side1 ?side2 A6.out).mono ?_); (case side1 => repeat (first | exact (Kd.R_reads' HO104.out).2.2 | (with_reducible refine Kd.C_alloc ?_ _) | (with_reducible refine Kd.C_drewN ?_ _) | (with_reducible refine Kd.C_drew ?_))); (case side2 => exact (Kd.R_reads' HO104.out).2.1); rintro e w12 ⟨rfl, hb⟩; refine ⟨_, rfl, ?_⟩; have n0_ := aM (Kd.R_below (by (with_reducible repeat (first | apply Kd.R_alloc | apply Kd.R_drewN | apply Kd.R_drew)); exact HO104.out) hb); have n1_ := aM (below_step (by repeat (first | (with_reducible first | exact HB.out | apply beA | apply beD | apply bed) | exact HB.out)) hb); clear HO104; clear HB; have HO104 := n0_; have HB := n1_; clear n0_ n1_; (try clear hb); (try clear hb2); (try clear hk); (try clear hi)) | ((with_reducible refine gate_callee (f := 39) rfl ?_); refine goesL_ (some 25) rfl rfl Try.func39 (by kernel_rfl) rfl #[.slice Ao10 t102.length co10] rfl (by (try simp only [List.map_toArray, List.map_cons, List.map_nil]); first | done | rfl | (simp only [List.length_drop, List.length_take]; rfl)) ?_; (with_reducible refine (spec_SumOf.calls k _ _ t102 t109 t110 t111 _ ?side1 ?side2 A7.out).mono ?_); (case side1 => repeat (first | exact (Kd.R_reads' HO104.out).2.2 | (with_reducible refine Kd.C_alloc ?_ _) | (with_reducible refine Kd.C_drewN ?_ _) | (with_reducible refine Kd.C_drew ?_))); (case side2 => exact (Kd.R_reads' HO104.out).2.1); rintro e w13 ⟨rfl, hb⟩; refine ⟨_, rfl, ?_⟩; have n0_ := aM (Kd.R_below (by (with_reducible repeat (first | apply Kd.R_alloc | apply Kd.R_drewN | apply Kd.R_drew)); exact HO104.out) hb); have n1_ := aM (below_step (by repeat (first | (with_reducible first | exact HB.out | apply beA | apply beD | apply bed) | exact HB.out)) hb); clear HO104; clear HB; have HO104 := n0_; have HB := n1_; clear n0_ n1_; (try clear hb); (try clear hb2); (try clear hk); (try clear hi)))
  (try simp only [Act.put, List.setIfInBounds_toArray, List.set_cons_zero, List.set_cons_succ])
  go_cut [47] (fun v47 wc => ∃ (kq : Nat) (x47_7 : Bool), v47 = .bool x47_7 ∧ Aside0 (laws_FnShares.j0 kq t102 t105 t106 t107 t108 x47_7 = some r) ∧ Aside0 (kq ≤ k) ∧ Aside0 (Kd.R k50 50 wc w.heap.size (fun _ => True) (.slice Ao10 t102.length co10) t102) ∧ Aside0 (Below w.heap.size w wc))
  case first =>
    have H := HC8.out
    clear HC8
    replace H := Option.bind_eq_some_iff.mp H
    obtain ⟨t112, A140, H⟩ := H
    replace H : (if (t105 != t112) = true then (laws_FnShares.j0 k t102 t105 t106 t107 t108 true) else (if (t108 != t111) = true then (laws_FnShares.j0 k t102 t105 t106 t107 t108 true) else (if t106 = t109 then (laws_FnShares.j0 k t102 t105 t106 t107 t108 (t107 != t110)) else (laws_FnShares.j0 k t102 t105 t106 t107 t108 true)))) = some r := H
    have A14 := Aside0.mk A140
    clear A140
    by_cases c15 : (t105 != t112) = true
    · rw [if_pos c15] at H
      have c15b0 : (t105 != t112) = true := c15
      (try (have c15b1 : decide (t105 = t112) = false := by simpa using c15))
      (try (have c15b2 : (t105 == t112) = false := by simpa using c15))
      (try (have c15b3 : ¬ (t105 = t112) := by simpa using c15))
      clear c15
      (first | rw [c15b0] | (simp only [i64_w, i32_w]; rw [c15b0]) | skip)
      have H' := Aside0.mk H
      clear H
      go_wp2_with (first | ((with_reducible refine gate_callee (f := 43) rfl ?_); refine goesL_ (some 31) rfl rfl Try.func43 (by kernel_rfl) rfl #[.slice Ao10 t102.length co10] rfl (by (try simp only [List.map_toArray, List.map_cons, List.map_nil]); first | done | rfl | (simp only [List.length_drop, List.length_take]; rfl)) ?_; (with_reducible refine (spec_Fits.calls k _ _ t102 t112 _ ?side1 ?side2 A14.out).mono ?_); (case side1 => repeat (first | exact (Kd.R_reads' HO104.out).2.2 | (with_reducible refine Kd.C_alloc ?_ _) | (with_reducible refine Kd.C_drewN ?_ _) | (with_reducible refine Kd.C_drew ?_))); (case side2 => exact (Kd.R_reads' HO104.out).2.1); rintro e w16 ⟨rfl, hb⟩; refine ⟨_, rfl, ?_⟩; have n0_ := aM (Kd.R_below (by (with_reducible repeat (first | apply Kd.R_alloc | apply Kd.R_drewN | apply Kd.R_drew)); exact HO104.out) hb); have n1_ := aM (below_step (by repeat (first | (with_reducible first | exact HB.out | apply beA | apply beD | apply bed) | exact HB.out)) hb); clear HO104; clear HB; have HO104 := n0_; have HB := n1_; clear n0_ n1_; (try clear hb); (try clear hb2); (try clear hk); (try clear hi)))
      go_meet
      case rel => exact ⟨_, (true), (by first | rfl | (simp; done) | (simp [*]; done)), H', ⟨by first | omega | exact Nat.le_refl _⟩, ⟨by (with_reducible repeat (first | apply Kd.R_alloc | apply Kd.R_drewN | apply Kd.R_drew)); exact HO104.out⟩, ⟨by repeat (first | (with_reducible first | exact HB.out | apply beA | apply beD | apply bed) | exact HB.out)⟩⟩
    rw [if_neg c15] at H
    have c15b0 : (t105 != t112) = false := by simpa using c15
    (try (have c15b1 : decide (t105 = t112) = true := by simpa using c15))
    (try (have c15b2 : (t105 == t112) = true := by simpa using c15))
    clear c15
    (first | rw [c15b0] | (simp only [i64_w, i32_w]; rw [c15b0]) | skip)
    by_cases c17 : (t108 != t111) = true
    · rw [if_pos c17] at H
      have c17b0 : (t108 != t111) = true := c17
      (try (have c17b1 : decide (t108 = t111) = false := by simpa using c17))
      (try (have c17b2 : (t108 == t111) = false := by simpa using c17))
      (try (have c17b3 : ¬ (t108 = t111) := by simpa using c17))
      clear c17
      have H' := Aside0.mk H
      clear H
      go_wp2_with (first | ((with_reducible refine gate_callee (f := 43) rfl ?_); refine goesL_ (some 31) rfl rfl Try.func43 (by kernel_rfl) rfl #[.slice Ao10 t102.length co10] rfl (by (try simp only [List.map_toArray, List.map_cons, List.map_nil]); first | done | rfl | (simp only [List.length_drop, List.length_take]; rfl)) ?_; (with_reducible refine (spec_Fits.calls k _ _ t102 t112 _ ?side1 ?side2 A14.out).mono ?_); (case side1 => repeat (first | exact (Kd.R_reads' HO104.out).2.2 | (with_reducible refine Kd.C_alloc ?_ _) | (with_reducible refine Kd.C_drewN ?_ _) | (with_reducible refine Kd.C_drew ?_))); (case side2 => exact (Kd.R_reads' HO104.out).2.1); rintro e w18 ⟨rfl, hb⟩; refine ⟨_, rfl, ?_⟩; have n0_ := aM (Kd.R_below (by (with_reducible repeat (first | apply Kd.R_alloc | apply Kd.R_drewN | apply Kd.R_drew)); exact HO104.out) hb); have n1_ := aM (below_step (by repeat (first | (with_reducible first | exact HB.out | apply beA | apply beD | apply bed) | exact HB.out)) hb); clear HO104; clear HB; have HO104 := n0_; have HB := n1_; clear n0_ n1_; (try clear hb); (try clear hb2); (try clear hk); (try clear hi)))
      go_meet
      case rel => exact ⟨_, (true), (by first | rfl | (simp; done) | (simp [*]; done)), H', ⟨by first | omega | exact Nat.le_refl _⟩, ⟨by (with_reducible repeat (first | apply Kd.R_alloc | apply Kd.R_drewN | apply Kd.R_drew)); exact HO104.out⟩, ⟨by repeat (first | (with_reducible first | exact HB.out | apply beA | apply beD | apply bed) | exact HB.out)⟩⟩
    rw [if_neg c17] at H
    have c17b0 : (t108 != t111) = false := by simpa using c17
    (try (have c17b1 : decide (t108 = t111) = true := by simpa using c17))
    (try (have c17b2 : (t108 == t111) = true := by simpa using c17))
    clear c17
    by_cases c19 : t106 = t109
    · rw [if_pos c19] at H
      have c19b0 : (t106 == t109) = true := beq_iff_eq.mpr c19
      have c19b1 : (t106 != t109) = false := bne_eq_false_iff_eq.mpr c19
      clear c19
      have H' := Aside0.mk H
      clear H
      go_wp2_with (first | ((with_reducible refine gate_callee (f := 43) rfl ?_); refine goesL_ (some 31) rfl rfl Try.func43 (by kernel_rfl) rfl #[.slice Ao10 t102.length co10] rfl (by (try simp only [List.map_toArray, List.map_cons, List.map_nil]); first | done | rfl | (simp only [List.length_drop, List.length_take]; rfl)) ?_; (with_reducible refine (spec_Fits.calls k _ _ t102 t112 _ ?side1 ?side2 A14.out).mono ?_); (case side1 => repeat (first | exact (Kd.R_reads' HO104.out).2.2 | (with_reducible refine Kd.C_alloc ?_ _) | (with_reducible refine Kd.C_drewN ?_ _) | (with_reducible refine Kd.C_drew ?_))); (case side2 => exact (Kd.R_reads' HO104.out).2.1); rintro e w20 ⟨rfl, hb⟩; refine ⟨_, rfl, ?_⟩; have n0_ := aM (Kd.R_below (by (with_reducible repeat (first | apply Kd.R_alloc | apply Kd.R_drewN | apply Kd.R_drew)); exact HO104.out) hb); have n1_ := aM (below_step (by repeat (first | (with_reducible first | exact HB.out | apply beA | apply beD | apply bed) | exact HB.out)) hb); clear HO104; clear HB; have HO104 := n0_; have HB := n1_; clear n0_ n1_; (try clear hb); (try clear hb2); (try clear hk); (try clear hi)))
      go_meet
      case rel => exact ⟨_, ((t107 != t110)), (by first | rfl | (simp; done) | (simp [*]; done)), H', ⟨by first | omega | exact Nat.le_refl _⟩, ⟨by (with_reducible repeat (first | apply Kd.R_alloc | apply Kd.R_drewN | apply Kd.R_drew)); exact HO104.out⟩, ⟨by repeat (first | (with_reducible first | exact HB.out | apply beA | apply beD | apply bed) | exact HB.out)⟩⟩
    rw [if_neg c19] at H
    have c19b0 : (t106 == t109) = false := beq_eq_false_iff_ne.mpr c19
    have c19b1 : (t106 != t109) = true := bne_iff_ne.mpr c19
    have H' := Aside0.mk H
    clear H
    go_wp2_with (first | ((with_reducible refine gate_callee (f := 43) rfl ?_); refine goesL_ (some 31) rfl rfl Try.func43 (by kernel_rfl) rfl #[.slice Ao10 t102.length co10] rfl (by (try simp only [List.map_toArray, List.map_cons, List.map_nil]); first | done | rfl | (simp only [List.length_drop, List.length_take]; rfl)) ?_; (with_reducible refine (spec_Fits.calls k _ _ t102 t112 _ ?side1 ?side2 A14.out).mono ?_); (case side1 => repeat (first | exact (Kd.R_reads' HO104.out).2.2 | (with_reducible refine Kd.C_alloc ?_ _) | (with_reducible refine Kd.C_drewN ?_ _) | (with_reducible refine Kd.C_drew ?_))); (case side2 => exact (Kd.R_reads' HO104.out).2.1); rintro e w21 ⟨rfl, hb⟩; refine ⟨_, rfl, ?_⟩; have n0_ := aM (Kd.R_below (by (with_reducible repeat (first | apply Kd.R_alloc | apply Kd.R_drewN | apply Kd.R_drew)); exact HO104.out) hb); have n1_ := aM (below_step (by repeat (first | (with_reducible first | exact HB.out | apply beA | apply beD | apply bed) | exact HB.out)) hb); clear HO104; clear HB; have HO104 := n0_; have HB := n1_; clear n0_ n1_; (try clear hb); (try clear hb2); (try clear hk); (try clear hi)))
    go_meet
    case rel => exact ⟨_, (true), (by first | rfl | (simp; done) | (simp [*]; done)), H', ⟨by first | omega | exact Nat.le_refl _⟩, ⟨by (with_reducible repeat (first | apply Kd.R_alloc | apply Kd.R_drewN | apply Kd.R_drew)); exact HO104.out⟩, ⟨by repeat (first | (with_reducible first | exact HB.out | apply beA | apply beD | apply bed) | exact HB.out)⟩⟩
  case rest =>
    clear HC8
    try clear c1
    try clear p2
    try clear c3
    try clear c4
    try clear c5
    try clear c9
    try clear c15
    try clear c15b0
    try clear c15b1
    try clear c15b2
    try clear c17
    try clear c17b0
    try clear c17b1
    try clear c17b2
    try clear c19
    try clear c19b0
    try clear c19b1
    obtain ⟨kq, x47_7, rfl, HA, HJ7, HO_3, HB⟩ := hcut
    cases kq with
    | zero => exact absurd HA.out (by simp [laws_FnShares.j0])
    | succ kj7 =>
      have H := HA.out
      clear HA
      simp only [laws_FnShares.j0] at H
      by_cases c22 : x47_7 = true
      · subst c22
        have H1 : (some false) = some r := by rw [if_pos rfl] at H; exact H
        clear H
        have H := H1
        clear H1
        obtain rfl := Option.some.inj H
        go_wp2
        go_ret
        exact ⟨by first | rfl | (simp <;> rfl) | (simp [*] <;> rfl), by repeat (first | (with_reducible first | exact HB.out | apply beA | apply beD | apply bed) | exact HB.out)⟩
      replace c22 := Bool.eq_false_iff.mpr c22
      subst c22
      have H1 : (if t108 = true then (if t107 < 1 then (laws_FnShares.j1 kj7 t102 t105 t106 true) else (if t106 < 0 then (laws_FnShares.j1 kj7 t102 t105 t106 true) else ((impl_Gcd.f kj7 t106 t107).bind fun t113 => (if t113 = 1 then (laws_FnShares.j1 kj7 t102 t105 t106 (t105 != (decide (t106 ≤ t107)))) else (if t107 ≤ 1000000 then (if t106 ≤ 1000000 then (laws_FnShares.j1 kj7 t102 t105 t106 true) else (laws_FnShares.j1 kj7 t102 t105 t106 (t105 != (decide (t106 ≤ t107))))) else (laws_FnShares.j1 kj7 t102 t105 t106 (t105 != (decide (t106 ≤ t107))))))))) else (if t105 = true then (some false) else (if t106 = 0 then (some (t107 == 0)) else (some false)))) = some r := by rw [if_neg (show ¬ (false = true) by decide)] at H; exact H
      clear H
      have H := H1
      clear H1
      by_cases c23 : t108 = true
      · subst c23
        have H1 : (if t107 < 1 then (laws_FnShares.j1 kj7 t102 t105 t106 true) else (if t106 < 0 then (laws_FnShares.j1 kj7 t102 t105 t106 true) else ((impl_Gcd.f kj7 t106 t107).bind fun t113 => (if t113 = 1 then (laws_FnShares.j1 kj7 t102 t105 t106 (t105 != (decide (t106 ≤ t107)))) else (if t107 ≤ 1000000 then (if t106 ≤ 1000000 then (laws_FnShares.j1 kj7 t102 t105 t106 true) else (laws_FnShares.j1 kj7 t102 t105 t106 (t105 != (decide (t106 ≤ t107))))) else (laws_FnShares.j1 kj7 t102 t105 t106 (t105 != (decide (t106 ≤ t107))))))))) = some r := by rw [if_pos rfl] at H; exact H
        clear H
        have H := H1
        clear H1
        have HC24 := Aside0.mk H
        clear H
        go_upto_region 11 with (fail)
        go_cut [86] (fun v86 wc => ∃ (kq : Nat) (x86_23 : Bool), v86 = .bool x86_23 ∧ Aside0 (laws_FnShares.j1 kq t102 t105 t106 x86_23 = some r) ∧ Aside0 (kq ≤ kj7) ∧ Aside0 (Kd.R k50 50 wc w.heap.size (fun _ => True) (.slice Ao10 t102.length co10) t102) ∧ Aside0 (Below w.heap.size w wc))
        case first =>
          have H := HC24.out
          clear HC24
          by_cases c25 : t107 < 1
          · rw [if_pos c25] at H
            have c25b0 : decide (t107 < 1) = true := decide_eq_true c25
            clear c25
            (first | rw [c25b0] | (simp only [i64_w, i32_w]; rw [c25b0]) | skip)
            have H' := Aside0.mk H
            clear H
            go_wp2
            go_meet
            case rel => exact ⟨_, (true), (by first | rfl | (simp; done) | (simp [*]; done)), H', ⟨by have := HJ7.out; first | omega | exact Nat.le_refl _⟩, ⟨by (with_reducible repeat (first | apply Kd.R_alloc | apply Kd.R_drewN | apply Kd.R_drew)); exact HO_3.out⟩, ⟨by repeat (first | (with_reducible first | exact HB.out | apply beA | apply beD | apply bed) | exact HB.out)⟩⟩
          rw [if_neg c25] at H
          have c25b0 : decide (t107 < 1) = false := decide_eq_false c25
          clear c25
          (first | rw [c25b0] | (simp only [i64_w, i32_w]; rw [c25b0]) | skip)
          by_cases c26 : t106 < 0
          · rw [if_pos c26] at H
            have c26b0 : decide (t106 < 0) = true := decide_eq_true c26
            clear c26
            have H' := Aside0.mk H
            clear H
            go_wp2
            go_meet
            case rel => exact ⟨_, (true), (by first | rfl | (simp; done) | (simp [*]; done)), H', ⟨by have := HJ7.out; first | omega | exact Nat.le_refl _⟩, ⟨by (with_reducible repeat (first | apply Kd.R_alloc | apply Kd.R_drewN | apply Kd.R_drew)); exact HO_3.out⟩, ⟨by repeat (first | (with_reducible first | exact HB.out | apply beA | apply beD | apply bed) | exact HB.out)⟩⟩
          rw [if_neg c26] at H
          have c26b0 : decide (t106 < 0) = false := decide_eq_false c26
          clear c26
          replace H := Option.bind_eq_some_iff.mp H
          obtain ⟨t113, A270, H⟩ := H
          replace H : (if t113 = 1 then (laws_FnShares.j1 kj7 t102 t105 t106 (t105 != (decide (t106 ≤ t107)))) else (if t107 ≤ 1000000 then (if t106 ≤ 1000000 then (laws_FnShares.j1 kj7 t102 t105 t106 true) else (laws_FnShares.j1 kj7 t102 t105 t106 (t105 != (decide (t106 ≤ t107))))) else (laws_FnShares.j1 kj7 t102 t105 t106 (t105 != (decide (t106 ≤ t107)))))) = some r := H
          have A27 := Aside0.mk A270
          clear A270
          by_cases c28 : t113 = 1
          · rw [if_pos c28] at H
            have c28b0 : (t113 == 1) = true := beq_iff_eq.mpr c28
            have c28b1 : (t113 != 1) = false := bne_eq_false_iff_eq.mpr c28
            clear c28
            have H' := Aside0.mk H
            clear H
            go_wp2_with (first | (go_at_call 52; (with_reducible refine (impl_Gcd.calls kj7 t106 t107 t113 _ A27.out).mono ?_); rintro e w29 ⟨rfl, hb⟩; have n0_ := aM (Kd.R_below (by (with_reducible repeat (first | apply Kd.R_alloc | apply Kd.R_drewN | apply Kd.R_drew)); exact HO_3.out) hb); have n1_ := aM (below_step (by repeat (first | (with_reducible first | exact HB.out | apply beA | apply beD | apply bed) | exact HB.out)) hb); clear HO_3; clear HB; have HO_3 := n0_; have HB := n1_; clear n0_ n1_; (try clear hb); (try clear hb2); (try clear hk); (try clear hi)))
            go_meet
            case rel => exact ⟨_, ((t105 != (decide (t106 ≤ t107)))), (by first | rfl | (simp; done) | (simp [*]; done)), H', ⟨by have := HJ7.out; first | omega | exact Nat.le_refl _⟩, ⟨by (with_reducible repeat (first | apply Kd.R_alloc | apply Kd.R_drewN | apply Kd.R_drew)); exact HO_3.out⟩, ⟨by repeat (first | (with_reducible first | exact HB.out | apply beA | apply beD | apply bed) | exact HB.out)⟩⟩
          rw [if_neg c28] at H
          have c28b0 : (t113 == 1) = false := beq_eq_false_iff_ne.mpr c28
          have c28b1 : (t113 != 1) = true := bne_iff_ne.mpr c28
          by_cases c30 : t107 ≤ 1000000
          · rw [if_pos c30] at H
            have c30b0 : decide (t107 ≤ 1000000) = true := decide_eq_true c30
            clear c30
            by_cases c31 : t106 ≤ 1000000
            · rw [if_pos c31] at H
              have c31b0 : decide (t106 ≤ 1000000) = true := decide_eq_true c31
              clear c31
              have H' := Aside0.mk H
              clear H
              go_wp2_with (first | (go_at_call 52; (with_reducible refine (impl_Gcd.calls kj7 t106 t107 t113 _ A27.out).mono ?_); rintro e w32 ⟨rfl, hb⟩; have n0_ := aM (Kd.R_below (by (with_reducible repeat (first | apply Kd.R_alloc | apply Kd.R_drewN | apply Kd.R_drew)); exact HO_3.out) hb); have n1_ := aM (below_step (by repeat (first | (with_reducible first | exact HB.out | apply beA | apply beD | apply bed) | exact HB.out)) hb); clear HO_3; clear HB; have HO_3 := n0_; have HB := n1_; clear n0_ n1_; (try clear hb); (try clear hb2); (try clear hk); (try clear hi)))
              go_meet
              case rel => exact ⟨_, (true), (by first | rfl | (simp; done) | (simp [*]; done)), H', ⟨by have := HJ7.out; first | omega | exact Nat.le_refl _⟩, ⟨by (with_reducible repeat (first | apply Kd.R_alloc | apply Kd.R_drewN | apply Kd.R_drew)); exact HO_3.out⟩, ⟨by repeat (first | (with_reducible first | exact HB.out | apply beA | apply beD | apply bed) | exact HB.out)⟩⟩
            rw [if_neg c31] at H
            have c31b0 : decide (t106 ≤ 1000000) = false := decide_eq_false c31
            clear c31
            have H' := Aside0.mk H
            clear H
            go_wp2_with (first | (go_at_call 52; (with_reducible refine (impl_Gcd.calls kj7 t106 t107 t113 _ A27.out).mono ?_); rintro e w33 ⟨rfl, hb⟩; have n0_ := aM (Kd.R_below (by (with_reducible repeat (first | apply Kd.R_alloc | apply Kd.R_drewN | apply Kd.R_drew)); exact HO_3.out) hb); have n1_ := aM (below_step (by repeat (first | (with_reducible first | exact HB.out | apply beA | apply beD | apply bed) | exact HB.out)) hb); clear HO_3; clear HB; have HO_3 := n0_; have HB := n1_; clear n0_ n1_; (try clear hb); (try clear hb2); (try clear hk); (try clear hi)))
            go_meet
            case rel => exact ⟨_, ((t105 != (decide (t106 ≤ t107)))), (by first | rfl | (simp; done) | (simp [*]; done)), H', ⟨by have := HJ7.out; first | omega | exact Nat.le_refl _⟩, ⟨by (with_reducible repeat (first | apply Kd.R_alloc | apply Kd.R_drewN | apply Kd.R_drew)); exact HO_3.out⟩, ⟨by repeat (first | (with_reducible first | exact HB.out | apply beA | apply beD | apply bed) | exact HB.out)⟩⟩
          rw [if_neg c30] at H
          have c30b0 : decide (t107 ≤ 1000000) = false := decide_eq_false c30
          clear c30
          have H' := Aside0.mk H
          clear H
          go_wp2_with (first | (go_at_call 52; (with_reducible refine (impl_Gcd.calls kj7 t106 t107 t113 _ A27.out).mono ?_); rintro e w34 ⟨rfl, hb⟩; have n0_ := aM (Kd.R_below (by (with_reducible repeat (first | apply Kd.R_alloc | apply Kd.R_drewN | apply Kd.R_drew)); exact HO_3.out) hb); have n1_ := aM (below_step (by repeat (first | (with_reducible first | exact HB.out | apply beA | apply beD | apply bed) | exact HB.out)) hb); clear HO_3; clear HB; have HO_3 := n0_; have HB := n1_; clear n0_ n1_; (try clear hb); (try clear hb2); (try clear hk); (try clear hi)))
          go_meet
          case rel => exact ⟨_, ((t105 != (decide (t106 ≤ t107)))), (by first | rfl | (simp; done) | (simp [*]; done)), H', ⟨by have := HJ7.out; first | omega | exact Nat.le_refl _⟩, ⟨by (with_reducible repeat (first | apply Kd.R_alloc | apply Kd.R_drewN | apply Kd.R_drew)); exact HO_3.out⟩, ⟨by repeat (first | (with_reducible first | exact HB.out | apply beA | apply beD | apply bed) | exact HB.out)⟩⟩
        case rest =>
          clear HC24
          try clear c1
          try clear c2
          try clear p2
          try clear c3
          try clear c4
          try clear c5
          try clear c9
          try clear c15
          try clear c15b0
          try clear c15b1
          try clear c15b2
          try clear c17
          try clear c17b0
          try clear c17b1
          try clear c17b2
          try clear c19
          try clear c19b0
          try clear c19b1
          try clear c22
          try clear c23
          try clear c25
          try clear c25b0
          try clear c26
          try clear c26b0
          try clear c28
          try clear c28b0
          try clear c28b1
          try clear c30
          try clear c30b0
          try clear c31
          try clear c31b0
          try clear p2
          obtain ⟨kq, x86_23, rfl, HA, HJ23, HO_3, HB⟩ := hcut
          cases kq with
          | zero => exact absurd HA.out (by simp [laws_FnShares.j1])
          | succ kj23 =>
            have H := HA.out
            clear HA
            simp only [laws_FnShares.j1] at H
            by_cases c35 : x86_23 = true
            · subst c35
              have H1 : (some false) = some r := by rw [if_pos rfl] at H; exact H
              clear H
              have H := H1
              clear H1
              obtain rfl := Option.some.inj H
              go_wp2
              go_ret
              exact ⟨by first | rfl | (simp <;> rfl) | (simp [*] <;> rfl), by repeat (first | (with_reducible first | exact HB.out | apply beA | apply beD | apply bed) | exact HB.out)⟩
            replace c35 := Bool.eq_false_iff.mpr c35
            subst c35
            have H1 : (if (t102.length : Int) = 0 then (if t105 = true then (some (t106 == 0)) else (some false)) else (if t105 = true then (if 1 ≤ (t102.length : Int) then ((impl_Fits.f kj23 (t102.drop 1)).bind fun t118 => (if t118 = true then (if 0 ≤ (wrap64 ((t102.length : Int) - 1)) then (if (wrap64 ((t102.length : Int) - 1)) ≤ (t102.length : Int) then ((impl_Fits.f kj23 (t102.take ((wrap64 ((t102.length : Int) - 1)) : Int).toNat)).bind fun t123 => (some t123)) else (none)) else (none)) else (some false))) else (none)) else (some true))) = some r := by rw [if_neg (show ¬ (false = true) by decide)] at H; exact H
            clear H
            have H := H1
            clear H1
            by_cases c36 : (t102.length : Int) = 0
            · rw [if_pos c36] at H
              have c36b0 : ((t102.length : Int) == 0) = true := beq_iff_eq.mpr c36
              have c36b1 : ((t102.length : Int) != 0) = false := bne_eq_false_iff_eq.mpr c36
              clear c36
              by_cases c37 : t105 = true
              · subst c37
                have H1 : (some (t106 == 0)) = some r := by rw [if_pos rfl] at H; exact H
                clear H
                have H := H1
                clear H1
                obtain rfl := Option.some.inj H
                go_wp2
                go_ret
                exact ⟨by first | rfl | (simp <;> rfl) | (simp [*] <;> rfl), by repeat (first | (with_reducible first | exact HB.out | apply beA | apply beD | apply bed) | exact HB.out)⟩
              replace c37 := Bool.eq_false_iff.mpr c37
              subst c37
              have H1 : (some false) = some r := by rw [if_neg (show ¬ (false = true) by decide)] at H; exact H
              clear H
              have H := H1
              clear H1
              obtain rfl := Option.some.inj H
              go_wp2
              go_ret
              exact ⟨by first | rfl | (simp <;> rfl) | (simp [*] <;> rfl), by repeat (first | (with_reducible first | exact HB.out | apply beA | apply beD | apply bed) | exact HB.out)⟩
            rw [if_neg c36] at H
            have c36b0 : ((t102.length : Int) == 0) = false := beq_eq_false_iff_ne.mpr c36
            have c36b1 : ((t102.length : Int) != 0) = true := bne_iff_ne.mpr c36
            have c36b2 : ¬ (t102 = []) := fun h_ => c36 (by rw [h_]; rfl)
            by_cases c38 : t105 = true
            · subst c38
              have H1 : (if 1 ≤ (t102.length : Int) then ((impl_Fits.f kj23 (t102.drop 1)).bind fun t118 => (if t118 = true then (if 0 ≤ (wrap64 ((t102.length : Int) - 1)) then (if (wrap64 ((t102.length : Int) - 1)) ≤ (t102.length : Int) then ((impl_Fits.f kj23 (t102.take ((wrap64 ((t102.length : Int) - 1)) : Int).toNat)).bind fun t123 => (some t123)) else (none)) else (none)) else (some false))) else (none)) = some r := by rw [if_pos rfl] at H; exact H
              clear H
              have H := H1
              clear H1
              by_cases c39 : 1 ≤ (t102.length : Int)
              · rw [if_pos c39] at H
                have c39b0 := eq_true c39
                have c39b1 : decide (1 ≤ (t102.length : Int)) = true := decide_eq_true c39
                clear c39
                obtain ⟨y114, hy114⟩ : ∃ y_ : List (S50), y_ = (t102.drop 1) := ⟨_, rfl⟩
                replace H : ((impl_Fits.f kj23 y114).bind fun t118 => (if t118 = true then (if 0 ≤ (wrap64 ((t102.length : Int) - 1)) then (if (wrap64 ((t102.length : Int) - 1)) ≤ (t102.length : Int) then ((impl_Fits.f kj23 (t102.take ((wrap64 ((t102.length : Int) - 1)) : Int).toNat)).bind fun t123 => (some t123)) else (none)) else (none)) else (some false))) = some r := by first | (rw [hy114]; with_reducible exact H) | (have H2_ := (Option.bind_some _ _).symm.trans H; rw [hy114]; with_reducible exact H2_) | (have H2_ := (Option.bind_some _ _).symm.trans H; with_reducible exact H2_) | with_reducible exact H | (rw [hy114]; exact H) | exact H
                have Ny114 := Aside0.mk hy114
                clear hy114
                replace H := Option.bind_eq_some_iff.mp H
                obtain ⟨t118, A400, H⟩ := H
                replace H : (if t118 = true then (if 0 ≤ (wrap64 ((t102.length : Int) - 1)) then (if (wrap64 ((t102.length : Int) - 1)) ≤ (t102.length : Int) then ((impl_Fits.f kj23 (t102.take ((wrap64 ((t102.length : Int) - 1)) : Int).toNat)).bind fun t123 => (some t123)) else (none)) else (none)) else (some false)) = some r := H
                have A40 := Aside0.mk A400
                clear A400
                by_cases c41 : t118 = true
                · subst c41
                  have H1 : (if 0 ≤ (wrap64 ((t102.length : Int) - 1)) then (if (wrap64 ((t102.length : Int) - 1)) ≤ (t102.length : Int) then ((impl_Fits.f kj23 (t102.take ((wrap64 ((t102.length : Int) - 1)) : Int).toNat)).bind fun t123 => (some t123)) else (none)) else (none)) = some r := by rw [if_pos rfl] at H; exact H
                  clear H
                  have H := H1
                  clear H1
                  obtain ⟨ji42, hji42⟩ : ∃ j_ : Int, (wrap64 ((t102.length : Int) - 1)) = j_ := ⟨_, rfl⟩
                  replace H : (if 0 ≤ (ji42) then (if (ji42) ≤ (t102.length : Int) then ((impl_Fits.f kj23 (t102.take ((ji42) : Int).toNat)).bind fun t123 => (some t123)) else (none)) else (none)) = some r := by first | (rw [hji42] at H; exact H) | (simp only [hji42] at H ⊢; exact H)
                  (try rw [hji42] at A40)
                  have hji42w : (IntKind.i64.wrap ((t102.length : Int) - 1)) = ji42 := (i64_w _).trans hji42
                  by_cases c43 : 0 ≤ (ji42)
                  · rw [if_pos c43] at H
                    have c43b0 := eq_true c43
                    have c43b1 : decide (0 ≤ (ji42)) = true := decide_eq_true c43
                    clear c43
                    by_cases c44 : (ji42) ≤ (t102.length : Int)
                    · rw [if_pos c44] at H
                      have c44b0 := eq_true c44
                      have c44b1 : decide ((ji42) ≤ (t102.length : Int)) = true := decide_eq_true c44
                      clear c44
                      obtain ⟨y119, hy119⟩ : ∃ y_ : List (S50), y_ = (t102.take ((ji42) : Int).toNat) := ⟨_, rfl⟩
                      replace H : ((impl_Fits.f kj23 y119).bind fun t123 => (some t123)) = some r := by first | (rw [hy119]; with_reducible exact H) | (have H2_ := (Option.bind_some _ _).symm.trans H; rw [hy119]; with_reducible exact H2_) | (have H2_ := (Option.bind_some _ _).symm.trans H; with_reducible exact H2_) | with_reducible exact H | (rw [hy119]; exact H) | exact H
                      have Ny119 := Aside0.mk hy119
                      clear hy119
                      replace H := Option.bind_eq_some_iff.mp H
                      obtain ⟨t123, A450, H⟩ := H
                      replace H : (some t123) = some r := H
                      have A45 := Aside0.mk A450
                      clear A450
                      obtain rfl := Option.some.inj H
                      have q46 : (1 : Int) ≤ ((t102.length : Int) : Int) := of_decide_eq_true (by first | (with_reducible assumption) | assumption)
                      obtain ⟨i046, hi046, _, hsz46, _⟩ := info_parts info50
                      have hroom46 : t102.length ≤ co10 := (Kd.R_reads' HO_3.out).2.1
                      have hC46 : Kd.C k50 _ Ao10 t102.length t102 := (Kd.R_reads' HO_3.out).2.2
                      have hcut46 := cut_from (P := Try.prog) 44 50 .i64 Try.underlying44 hi046 2 hsz46 Ao10 t102.length co10 1 (by omega) q46
                      have hr46 := Kd.C_drop (m := (1 : Int).toNat) (c := co10) hC46 (by omega) hroom46
                      obtain ⟨A46, hA46⟩ : ∃ A1, A1 = (if co10 = (1 : Int).toNat then Ao10 else (Ao10 : Option Addr).map (·.add ((1 : Int).toNat * 2))) := ⟨_, rfl⟩
                      obtain ⟨c46, hc46⟩ : ∃ c1, c1 = co10 - (1 : Int).toNat := ⟨_, rfl⟩
                      have hy46 : y114.length = t102.length - (1 : Int).toNat := (by rw [Ny114.out, List.length_drop] <;> omega)
                      rw [show (t102).drop (1 : Int).toNat = y114 from Ny114.out.symm] at hr46
                      replace hr46 : Kd.C k50 _ A46 y114.length y114 := (by rw [hA46]; exact hr46)
                      rw [← hy46, ← hA46, ← hc46] at hcut46
                      have HR117 := Aside0.mk hr46
                      have HC117 := aM (show y114.length ≤ c46 from by rw [hy46, hc46]; exact Nat.sub_le_sub_right hroom46 _)
                      clear hr46 hC46 hroom46 hi046 hsz46 hc46
                      have KY46 := Aside0.mk hy46
                      have KA46 := Aside0.mk hA46
                      clear hy46 hA46
                      have KL46 := aM (show 1 ≤ t102.length from by omega)
                      replace q46 := eq_true q46
                      go_wp2_with (first | (go_at_call 44; (with_reducible refine (impl_Fits.calls kj23 _ _ y114 true _ ?side1 ?side2 A40.out).mono ?_); (case side1 => repeat (first | exact (by repeat (first | (with_reducible exact HR117.out) | (with_reducible refine Kd.C_alloc ?_ _) | (with_reducible refine Kd.C_drewN ?_ _) | (with_reducible refine Kd.C_drew ?_) | exact HR117.out)) | (with_reducible refine Kd.C_alloc ?_ _) | (with_reducible refine Kd.C_drewN ?_ _) | (with_reducible refine Kd.C_drew ?_))); (case side2 => exact HC117.out); rintro e w47 ⟨rfl, hb⟩; have n0_ := aM (Kd.R_below (by (with_reducible repeat (first | apply Kd.R_alloc | apply Kd.R_drewN | apply Kd.R_drew)); exact HO_3.out) hb); have n1_ := aM (Kd.C_below (by repeat (first | (with_reducible exact HR117.out) | (with_reducible refine Kd.C_alloc ?_ _) | (with_reducible refine Kd.C_drewN ?_ _) | (with_reducible refine Kd.C_drew ?_) | exact HR117.out)) hb); have n2_ := aM (below_step (by repeat (first | (with_reducible first | exact HB.out | apply beA | apply beD | apply bed) | exact HB.out)) hb); clear HO_3; clear HR117; clear HB; have HO_3 := n0_; have HR117 := n1_; have HB := n2_; clear n0_ n1_ n2_; (try clear hb); (try clear hb2); (try clear hk); (try clear hi); have q48 : ((ji42) : Int) ≤ ((t102.length : Int) : Int) := of_decide_eq_true (by first | (with_reducible assumption) | assumption); obtain ⟨i048, hi048, _, hsz48, _⟩ := info_parts info50; have hroom48 : t102.length ≤ co10 := (Kd.R_reads' HO_3.out).2.1; have hC48 : Kd.C k50 _ Ao10 t102.length t102 := (Kd.R_reads' HO_3.out).2.2; have hcut48 := cut_to (P := Try.prog) 44 50 .i64 Try.underlying44 hi048 Ao10 t102.length co10 (ji42) (of_decide_eq_true (by first | (with_reducible assumption) | assumption)) q48 hroom48; have hr48 := Kd.C_take (m := ((ji42) : Int).toNat) hC48 (by omega); have hy48 : y119.length = ((ji42) : Int).toNat := (by rw [Ny119.out, List.length_take]; omega); rw [← Ny119.out] at hr48; rw [← hy48] at hcut48; have HR122 := Aside0.mk hr48; have HC122 := aM (show y119.length ≤ co10 from by omega); clear hr48 hC48 hroom48 hi048 hsz48; have KY48 := Aside0.mk hy48; clear hy48; have KL48 := aM (show ((ji42) : Int).toNat ≤ t102.length from by omega); replace q48 := eq_true q48) | (go_at_call 44; (with_reducible refine (impl_Fits.calls kj23 _ _ y119 t123 _ ?side1 ?side2 A45.out).mono ?_); (case side1 => repeat (first | exact (by repeat (first | (with_reducible exact HR122.out) | (with_reducible refine Kd.C_alloc ?_ _) | (with_reducible refine Kd.C_drewN ?_ _) | (with_reducible refine Kd.C_drew ?_) | exact HR122.out)) | (with_reducible refine Kd.C_alloc ?_ _) | (with_reducible refine Kd.C_drewN ?_ _) | (with_reducible refine Kd.C_drew ?_))); (case side2 => exact HC122.out); rintro e w49 ⟨rfl, hb⟩; have n0_ := aM (Kd.R_below (by (with_reducible repeat (first | apply Kd.R_alloc | apply Kd.R_drewN | apply Kd.R_drew)); exact HO_3.out) hb); have n1_ := aM (Kd.C_below (by repeat (first | (with_reducible exact HR117.out) | (with_reducible refine Kd.C_alloc ?_ _) | (with_reducible refine Kd.C_drewN ?_ _) | (with_reducible refine Kd.C_drew ?_) | exact HR117.out)) hb); have n2_ := aM (Kd.C_below (by repeat (first | (with_reducible exact HR122.out) | (with_reducible refine Kd.C_alloc ?_ _) | (with_reducible refine Kd.C_drewN ?_ _) | (with_reducible refine Kd.C_drew ?_) | exact HR122.out)) hb); have n3_ := aM (below_step (by repeat (first | (with_reducible first | exact HB.out | apply beA | apply beD | apply bed) | exact HB.out)) hb); clear HO_3; clear HR117; clear HR122; clear HB; have HO_3 := n0_; have HR117 := n1_; have HR122 := n2_; have HB := n3_; clear n0_ n1_ n2_ n3_; (try clear hb); (try clear hb2); (try clear hk); (try clear hi)))
                      go_ret
                      exact ⟨by first | rfl | (simp [errW_none, errW_some] <;> rfl) | (simp only [← hji42]; first | rfl | (simp [errW_none, errW_some] <;> rfl)) | (simp [*, errW_none, errW_some] <;> rfl), by repeat (first | (with_reducible first | exact HB.out | apply beA | apply beD | apply bed) | exact HB.out)⟩
                    rw [if_neg c44] at H
                    exact absurd H (by simp)
                  rw [if_neg c43] at H
                  exact absurd H (by simp)
                replace c41 := Bool.eq_false_iff.mpr c41
                subst c41
                have H1 : (some false) = some r := by rw [if_neg (show ¬ (false = true) by decide)] at H; exact H
                clear H
                have H := H1
                clear H1
                obtain rfl := Option.some.inj H
                have q50 : (1 : Int) ≤ ((t102.length : Int) : Int) := of_decide_eq_true (by first | (with_reducible assumption) | assumption)
                obtain ⟨i050, hi050, _, hsz50, _⟩ := info_parts info50
                have hroom50 : t102.length ≤ co10 := (Kd.R_reads' HO_3.out).2.1
                have hC50 : Kd.C k50 _ Ao10 t102.length t102 := (Kd.R_reads' HO_3.out).2.2
                have hcut50 := cut_from (P := Try.prog) 44 50 .i64 Try.underlying44 hi050 2 hsz50 Ao10 t102.length co10 1 (by omega) q50
                have hr50 := Kd.C_drop (m := (1 : Int).toNat) (c := co10) hC50 (by omega) hroom50
                obtain ⟨A50, hA50⟩ : ∃ A1, A1 = (if co10 = (1 : Int).toNat then Ao10 else (Ao10 : Option Addr).map (·.add ((1 : Int).toNat * 2))) := ⟨_, rfl⟩
                obtain ⟨c50, hc50⟩ : ∃ c1, c1 = co10 - (1 : Int).toNat := ⟨_, rfl⟩
                have hy50 : y114.length = t102.length - (1 : Int).toNat := (by rw [Ny114.out, List.length_drop] <;> omega)
                rw [show (t102).drop (1 : Int).toNat = y114 from Ny114.out.symm] at hr50
                replace hr50 : Kd.C k50 _ A50 y114.length y114 := (by rw [hA50]; exact hr50)
                rw [← hy50, ← hA50, ← hc50] at hcut50
                have HR117 := Aside0.mk hr50
                have HC117 := aM (show y114.length ≤ c50 from by rw [hy50, hc50]; exact Nat.sub_le_sub_right hroom50 _)
                clear hr50 hC50 hroom50 hi050 hsz50 hc50
                have KY50 := Aside0.mk hy50
                have KA50 := Aside0.mk hA50
                clear hy50 hA50
                have KL50 := aM (show 1 ≤ t102.length from by omega)
                replace q50 := eq_true q50
                go_wp2_with (first | (go_at_call 44; (with_reducible refine (impl_Fits.calls kj23 _ _ y114 false _ ?side1 ?side2 A40.out).mono ?_); (case side1 => repeat (first | exact (by repeat (first | (with_reducible exact HR117.out) | (with_reducible refine Kd.C_alloc ?_ _) | (with_reducible refine Kd.C_drewN ?_ _) | (with_reducible refine Kd.C_drew ?_) | exact HR117.out)) | (with_reducible refine Kd.C_alloc ?_ _) | (with_reducible refine Kd.C_drewN ?_ _) | (with_reducible refine Kd.C_drew ?_))); (case side2 => exact HC117.out); rintro e w51 ⟨rfl, hb⟩; have n0_ := aM (Kd.R_below (by (with_reducible repeat (first | apply Kd.R_alloc | apply Kd.R_drewN | apply Kd.R_drew)); exact HO_3.out) hb); have n1_ := aM (Kd.C_below (by repeat (first | (with_reducible exact HR117.out) | (with_reducible refine Kd.C_alloc ?_ _) | (with_reducible refine Kd.C_drewN ?_ _) | (with_reducible refine Kd.C_drew ?_) | exact HR117.out)) hb); have n2_ := aM (below_step (by repeat (first | (with_reducible first | exact HB.out | apply beA | apply beD | apply bed) | exact HB.out)) hb); clear HO_3; clear HR117; clear HB; have HO_3 := n0_; have HR117 := n1_; have HB := n2_; clear n0_ n1_ n2_; (try clear hb); (try clear hb2); (try clear hk); (try clear hi)))
                go_ret
                exact ⟨by first | rfl | (simp <;> rfl) | (simp [*] <;> rfl), by repeat (first | (with_reducible first | exact HB.out | apply beA | apply beD | apply bed) | exact HB.out)⟩
              rw [if_neg c39] at H
              exact absurd H (by simp)
            replace c38 := Bool.eq_false_iff.mpr c38
            subst c38
            have H1 : (some true) = some r := by rw [if_neg (show ¬ (false = true) by decide)] at H; exact H
            clear H
            have H := H1
            clear H1
            obtain rfl := Option.some.inj H
            go_wp2
            go_ret
            exact ⟨by first | rfl | (simp <;> rfl) | (simp [*] <;> rfl), by repeat (first | (with_reducible first | exact HB.out | apply beA | apply beD | apply bed) | exact HB.out)⟩
      replace c23 := Bool.eq_false_iff.mpr c23
      subst c23
      have H1 : (if t105 = true then (some false) else (if t106 = 0 then (some (t107 == 0)) else (some false))) = some r := by rw [if_neg (show ¬ (false = true) by decide)] at H; exact H
      clear H
      have H := H1
      clear H1
      by_cases c52 : t105 = true
      · subst c52
        have H1 : (some false) = some r := by rw [if_pos rfl] at H; exact H
        clear H
        have H := H1
        clear H1
        obtain rfl := Option.some.inj H
        go_wp2
        go_ret
        exact ⟨by first | rfl | (simp <;> rfl) | (simp [*] <;> rfl), by repeat (first | (with_reducible first | exact HB.out | apply beA | apply beD | apply bed) | exact HB.out)⟩
      replace c52 := Bool.eq_false_iff.mpr c52
      subst c52
      have H1 : (if t106 = 0 then (some (t107 == 0)) else (some false)) = some r := by rw [if_neg (show ¬ (false = true) by decide)] at H; exact H
      clear H
      have H := H1
      clear H1
      by_cases c53 : t106 = 0
      · rw [if_pos c53] at H
        have c53b0 : (t106 == 0) = true := beq_iff_eq.mpr c53
        have c53b1 : (t106 != 0) = false := bne_eq_false_iff_eq.mpr c53
        clear c53
        obtain rfl := Option.some.inj H
        go_wp2
        go_ret
        exact ⟨by first | rfl | (simp <;> rfl) | (simp [*] <;> rfl), by repeat (first | (with_reducible first | exact HB.out | apply beA | apply beD | apply bed) | exact HB.out)⟩
      rw [if_neg c53] at H
      have c53b0 : (t106 == 0) = false := beq_eq_false_iff_ne.mpr c53
      have c53b1 : (t106 != 0) = true := bne_iff_ne.mpr c53
      obtain rfl := Option.some.inj H
      go_wp2
      go_ret
      exact ⟨by first | rfl | (simp <;> rfl) | (simp [*] <;> rfl), by repeat (first | (with_reducible first | exact HB.out | apply beA | apply beD | apply bed) | exact HB.out)⟩

/-- THE ONE PURE STATEMENT of laws_FnShares: yours. -/
def laws_FnShares.Pure : Prop := ∀ (l0 : List Int), l0.length ≤ maxLen → l0.length * 1 ≤ 140737488351232 → (∀ x ∈ l0, (Lit.int .u8 x).wf = true) → ∃ k, laws_FnShares.f k l0 = some true
theorem laws_FnShares.walk (P : laws_FnShares.Pure) (a0 : Option Addr) (len0 cap0 : Nat) (z0 : List Int) (w : World) (w0 : (a0 = none ∧ len0 = 0 ∧ cap0 = 0 ∧ z0 = []) ∨ ∃ x, a0 = some x ∧ len0 ≤ cap0 ∧ cap0 ≤ maxLen ∧ z0.length = cap0 ∧ (∀ i, i < z0.length → w.cell? (x.add i) = some (.int .u8 (z0.getD i 0))) ∧ ∀ n ∈ z0, (Lit.int .u8 n).wf = true) (y0 : len0 * 1 ≤ 140737488351232) :
    Calls Try.prog 9 #[.slice a0 len0 cap0] w fun e w' => e = .returned (.bool true) ∧ Below w.heap.size w w' := by
  obtain ⟨l0, rfl, hr0, hm0, hw0, hc0⟩ := ReadsInt.ofRowC w0
  obtain ⟨k, h⟩ := P l0 hm0 y0 hw0
  refine (laws_FnShares.calls k _ _ l0 true w (Kd.C_of_reads (d := (0 : Int)) (h1 := fun _ => rfl) hr0) hc0 h).mono ?_
  rintro e w' ⟨rfl, hd⟩
  exact ⟨rfl, hd⟩

end Go.Proofs.Ytnokdjkkgcpbdac.Print
