/- Go functions as plain Lean functions, and that the Go code answers just as these, wherever they answer. Conditions: those of each theorem. Written by a program of this session (wip/patch.py). -/
import Derived.Test.YtnokdjkkgcpbdabPrint0
import Derived.Test.YtnokdjkkgcpbdabPrintEq
import Derived.Test.YtnokdjkkgcpbdabPrintImplFairMove
import Derived.Test.YtnokdjkkgcpbdabPrintImplTaskOk0
import Derived.Test.YtnokdjkkgcpbdabPrintLawsBig
import Derived.Test.YtnokdjkkgcpbdabPrintSpecFairMove
import Derived.Test.YtnokdjkkgcpbdabPrintSpecL6DrawFloor
namespace Go.Proofs.Ytnokdjkkgcpbdab.Print
open Go.RowKit Go.Proofs.Ytnokdjkkgcpbdab.Base Go.Proofs.YtnokdjkkgcpbdabW.PrintWords Go.Proofs.YtnokdjkkgcpbdabW.PrintLast Go.Proofs.YtnokdjkkgcpbdabW.PrintMore
attribute [local go_sem] max2_int min2_int max_two min_two max_three min_three max_four min_four   -- for this text's walks alone
set_option linter.unusedVariables false
set_option linter.unusedSimpArgs false

attribute [local go_sem high] eqA24
/-! ### laws_FnMoved: function 13 -/
def laws_FnMoved.j0 : Nat → Int → Int → Int → Bool → Int → Int → Int → Int → Bool → Int → Int → Int → Int → Int → Int → Int → Int → Int → Int → Int → Int → Int → Bool → Int → Int → Int → Int → Int → Int → Int → Int → Int → Option (Bool)
  | 0, _, _, _, _, _, _, _, _, _, _, _, _, _, _, _, _, _, _, _, _, _, _, _, _, _, _, _, _, _, _, _, _ => none
  | k + 1, x4, x5, x6, x29, x120000, x120001, x120002, x120003, x120004, x120005, x120006, x120007, x120008, x120009, x120010, x120011, x120012, x120013, x135000, x135001, x135002, x135003, x135004, x135005, x135006, x135007, x135008, x135009, x135010, x135011, x135012, x135013 => if x29 = true then (some false) else (if (x135000 == x120000 && (x135001 == x120001 && (x135002 == x120002 && (x135003 == x120003 && (x135004 == x120004 && (x135005 == x120005 && (x135006 == x120006 && (x135007 == x120007 && (x135008 == x120008 && (x135009 == x120009 && (x135010 == x120010 && (x135011 == x120011 && (x135012 == x120012 && (x135013 == x120013)))))))))))))) = true then (some true) else (if (wrap64 (x120013 - x5)) < 0 then ((impl_TaskOk.f x135000 x135001 x135002 x135003 x135004 x135005 x135006 x135007 x135008 x135009 x135010 x135011 x135012 x135013).bind fun t149 => (if t149 = true then (if x135002 = x4 then (if (wrap64 (x135013 - x6)) = 0 then (if x135012 = x120012 then (some (x135000 == x120000)) else (some false)) else (some false)) else (some false)) else (some false))) else ((impl_TaskOk.f x135000 x135001 x135002 x135003 x135004 x135005 x135006 x135007 x135008 x135009 x135010 x135011 x135012 x135013).bind fun t150 => (if t150 = true then (if x135002 = x4 then (if (wrap64 (x135013 - x6)) = (wrap64 (x120013 - x5)) then (if x135012 = x120012 then (some (x135000 == x120000)) else (some false)) else (some false)) else (some false)) else (some false)))))
def laws_FnMoved.f (k : Nat) (l0 : List Int) : Option (Bool) := (laws_big.f l0).bind fun t101 => (if t101 = true then (some true) else ((spec_DrawFairMove.f k l0).bind fun bt102 => ((impl_FairMove.f k bt102.1 bt102.2.1 bt102.2.2.1 bt102.2.2.2.1 bt102.2.2.2.2.1 bt102.2.2.2.2.2.1 bt102.2.2.2.2.2.2.1 bt102.2.2.2.2.2.2.2.1 bt102.2.2.2.2.2.2.2.2.1 bt102.2.2.2.2.2.2.2.2.2.1 bt102.2.2.2.2.2.2.2.2.2.2.1 bt102.2.2.2.2.2.2.2.2.2.2.2.1 bt102.2.2.2.2.2.2.2.2.2.2.2.2.1 bt102.2.2.2.2.2.2.2.2.2.2.2.2.2.1 bt102.2.2.2.2.2.2.2.2.2.2.2.2.2.2.1 bt102.2.2.2.2.2.2.2.2.2.2.2.2.2.2.2.1 bt102.2.2.2.2.2.2.2.2.2.2.2.2.2.2.2.2).bind fun bt120 => ((spec_FairMove.f k bt102.1 bt102.2.1 bt102.2.2.1 bt102.2.2.2.1 bt102.2.2.2.2.1 bt102.2.2.2.2.2.1 bt102.2.2.2.2.2.2.1 bt102.2.2.2.2.2.2.2.1 bt102.2.2.2.2.2.2.2.2.1 bt102.2.2.2.2.2.2.2.2.2.1 bt102.2.2.2.2.2.2.2.2.2.2.1 bt102.2.2.2.2.2.2.2.2.2.2.2.1 bt102.2.2.2.2.2.2.2.2.2.2.2.2.1 bt102.2.2.2.2.2.2.2.2.2.2.2.2.2.1 bt102.2.2.2.2.2.2.2.2.2.2.2.2.2.2.1 bt102.2.2.2.2.2.2.2.2.2.2.2.2.2.2.2.1 bt102.2.2.2.2.2.2.2.2.2.2.2.2.2.2.2.2).bind fun bt135 => (laws_FnMoved.j0 k bt102.2.2.2.2.2.2.2.2.2.2.2.2.2.2.1 bt102.2.2.2.2.2.2.2.2.2.2.2.2.2.2.2.1 bt102.2.2.2.2.2.2.2.2.2.2.2.2.2.2.2.2 (!(bt120.1 == bt135.1) || (!(bt120.2.1 == bt135.2.1) || (!(bt120.2.2.1 == bt135.2.2.1) || (!(bt120.2.2.2.1 == bt135.2.2.2.1) || (!(bt120.2.2.2.2.1 == bt135.2.2.2.2.1) || (!(bt120.2.2.2.2.2.1 == bt135.2.2.2.2.2.1) || (!(bt120.2.2.2.2.2.2.1 == bt135.2.2.2.2.2.2.1) || (!(bt120.2.2.2.2.2.2.2.1 == bt135.2.2.2.2.2.2.2.1) || (!(bt120.2.2.2.2.2.2.2.2.1 == bt135.2.2.2.2.2.2.2.2.1) || (!(bt120.2.2.2.2.2.2.2.2.2.1 == bt135.2.2.2.2.2.2.2.2.2.1) || (!(bt120.2.2.2.2.2.2.2.2.2.2.1 == bt135.2.2.2.2.2.2.2.2.2.2.1) || (!(bt120.2.2.2.2.2.2.2.2.2.2.2.1 == bt135.2.2.2.2.2.2.2.2.2.2.2.1) || (!(bt120.2.2.2.2.2.2.2.2.2.2.2.2.1 == bt135.2.2.2.2.2.2.2.2.2.2.2.2.1) || (!(bt120.2.2.2.2.2.2.2.2.2.2.2.2.2 == bt135.2.2.2.2.2.2.2.2.2.2.2.2.2))))))))))))))) bt102.1 bt102.2.1 bt102.2.2.1 bt102.2.2.2.1 bt102.2.2.2.2.1 bt102.2.2.2.2.2.1 bt102.2.2.2.2.2.2.1 bt102.2.2.2.2.2.2.2.1 bt102.2.2.2.2.2.2.2.2.1 bt102.2.2.2.2.2.2.2.2.2.1 bt102.2.2.2.2.2.2.2.2.2.2.1 bt102.2.2.2.2.2.2.2.2.2.2.2.1 bt102.2.2.2.2.2.2.2.2.2.2.2.2.1 bt102.2.2.2.2.2.2.2.2.2.2.2.2.2.1 bt120.1 bt120.2.1 bt120.2.2.1 bt120.2.2.2.1 bt120.2.2.2.2.1 bt120.2.2.2.2.2.1 bt120.2.2.2.2.2.2.1 bt120.2.2.2.2.2.2.2.1 bt120.2.2.2.2.2.2.2.2.1 bt120.2.2.2.2.2.2.2.2.2.1 bt120.2.2.2.2.2.2.2.2.2.2.1 bt120.2.2.2.2.2.2.2.2.2.2.2.1 bt120.2.2.2.2.2.2.2.2.2.2.2.2.1 bt120.2.2.2.2.2.2.2.2.2.2.2.2.2)))))
theorem laws_FnMoved.mono_l : ∀ k, (∀ y0 y1 y2 y3 y4 y5 y6 y7 y8 y9 y10 y11 y12 y13 y14 y15 y16 y17 y18 y19 y20 y21 y22 y23 y24 y25 y26 y27 y28 y29 y30 y31, LeO (laws_FnMoved.j0 k y0 y1 y2 y3 y4 y5 y6 y7 y8 y9 y10 y11 y12 y13 y14 y15 y16 y17 y18 y19 y20 y21 y22 y23 y24 y25 y26 y27 y28 y29 y30 y31) (laws_FnMoved.j0 (k + 1) y0 y1 y2 y3 y4 y5 y6 y7 y8 y9 y10 y11 y12 y13 y14 y15 y16 y17 y18 y19 y20 y21 y22 y23 y24 y25 y26 y27 y28 y29 y30 y31))
  | 0 => fun _ _ _ _ _ _ _ _ _ _ _ _ _ _ _ _ _ _ _ _ _ _ _ _ _ _ _ _ _ _ _ _ r h => by simp [laws_FnMoved.j0] at h
  | k + 1 => by
    have ih0 := laws_FnMoved.mono_l k
    intro y0 y1 y2 y3 y4 y5 y6 y7 y8 y9 y10 y11 y12 y13 y14 y15 y16 y17 y18 y19 y20 y21 y22 y23 y24 y25 y26 y27 y28 y29 y30 y31
    unfold laws_FnMoved.j0
    repeat' first
    | (with_reducible exact ih0 _ _ _ _ _ _ _ _ _ _ _ _ _ _ _ _ _ _ _ _ _ _ _ _ _ _ _ _ _ _ _ _)
    | (with_reducible exact impl_FairMove.mono _ _ _ _ _ _ _ _ _ _ _ _ _ _ _ _ _ _)
    | (with_reducible exact spec_DrawFairMove.mono _ _)
    | (with_reducible exact spec_FairMove.mono _ _ _ _ _ _ _ _ _ _ _ _ _ _ _ _ _ _)
    | (with_reducible exact LeO.refl _)
    | (with_reducible exact LeO.none _)
    | (with_reducible refine LeO.ite ?_ ?_)
    | (with_reducible refine LeO.bind ?_ (fun _ => ?_))
    | exact ih0 _ _ _ _ _ _ _ _ _ _ _ _ _ _ _ _ _ _ _ _ _ _ _ _ _ _ _ _ _ _ _ _
    | exact impl_FairMove.mono _ _ _ _ _ _ _ _ _ _ _ _ _ _ _ _ _ _
    | exact spec_DrawFairMove.mono _ _
    | exact spec_FairMove.mono _ _ _ _ _ _ _ _ _ _ _ _ _ _ _ _ _ _
    | exact LeO.none _
    | refine LeO.ite ?_ ?_
    | refine LeO.bind ?_ (fun _ => ?_)
theorem laws_FnMoved.mono : ∀ a0 k, LeO (laws_FnMoved.f k a0) (laws_FnMoved.f (k + 1) a0) := by
  intro a0 k
  have ih0 := laws_FnMoved.mono_l k
  unfold laws_FnMoved.f
  repeat' first
      | (with_reducible exact ih0 _ _ _ _ _ _ _ _ _ _ _ _ _ _ _ _ _ _ _ _ _ _ _ _ _ _ _ _ _ _ _ _)
      | (with_reducible exact impl_FairMove.mono _ _ _ _ _ _ _ _ _ _ _ _ _ _ _ _ _ _)
      | (with_reducible exact spec_DrawFairMove.mono _ _)
      | (with_reducible exact spec_FairMove.mono _ _ _ _ _ _ _ _ _ _ _ _ _ _ _ _ _ _)
      | (with_reducible exact LeO.refl _)
      | (with_reducible exact LeO.none _)
      | (with_reducible refine LeO.ite ?_ ?_)
      | (with_reducible refine LeO.bind ?_ (fun _ => ?_))
      | exact ih0 _ _ _ _ _ _ _ _ _ _ _ _ _ _ _ _ _ _ _ _ _ _ _ _ _ _ _ _ _ _ _ _
      | exact impl_FairMove.mono _ _ _ _ _ _ _ _ _ _ _ _ _ _ _ _ _ _
      | exact spec_DrawFairMove.mono _ _
      | exact spec_FairMove.mono _ _ _ _ _ _ _ _ _ _ _ _ _ _ _ _ _ _
      | exact LeO.none _
      | refine LeO.ite ?_ ?_
      | refine LeO.bind ?_ (fun _ => ?_)
set_option maxHeartbeats 8000000 in
set_option maxRecDepth 100000 in
theorem laws_FnMoved.calls (k : Nat) (A0 : Option Addr) (c0 : Nat) (l0 : List Int) (r : Bool) (w : World) (hr0 : Kd.C (Kd.int .u8) w A0 l0.length l0) (hc0 : l0.length ≤ c0) (h : laws_FnMoved.f k l0 = some r) :
    Calls Try.prog 13 #[.slice A0 l0.length c0] w fun e w' => e = .returned (.bool r) ∧ Below w.heap.size w w' := by
  have hu24 := Try.underlying24
  have HR0 := Aside0.mk hr0
  have HC0 := Aside0.mk hc0
  clear hr0 hc0
  have HB := aM (Below.refl w.heap.size w)
  have H : ((laws_big.f l0).bind fun t101 => (if t101 = true then (some true) else ((spec_DrawFairMove.f k l0).bind fun bt102 => ((impl_FairMove.f k bt102.1 bt102.2.1 bt102.2.2.1 bt102.2.2.2.1 bt102.2.2.2.2.1 bt102.2.2.2.2.2.1 bt102.2.2.2.2.2.2.1 bt102.2.2.2.2.2.2.2.1 bt102.2.2.2.2.2.2.2.2.1 bt102.2.2.2.2.2.2.2.2.2.1 bt102.2.2.2.2.2.2.2.2.2.2.1 bt102.2.2.2.2.2.2.2.2.2.2.2.1 bt102.2.2.2.2.2.2.2.2.2.2.2.2.1 bt102.2.2.2.2.2.2.2.2.2.2.2.2.2.1 bt102.2.2.2.2.2.2.2.2.2.2.2.2.2.2.1 bt102.2.2.2.2.2.2.2.2.2.2.2.2.2.2.2.1 bt102.2.2.2.2.2.2.2.2.2.2.2.2.2.2.2.2).bind fun bt120 => ((spec_FairMove.f k bt102.1 bt102.2.1 bt102.2.2.1 bt102.2.2.2.1 bt102.2.2.2.2.1 bt102.2.2.2.2.2.1 bt102.2.2.2.2.2.2.1 bt102.2.2.2.2.2.2.2.1 bt102.2.2.2.2.2.2.2.2.1 bt102.2.2.2.2.2.2.2.2.2.1 bt102.2.2.2.2.2.2.2.2.2.2.1 bt102.2.2.2.2.2.2.2.2.2.2.2.1 bt102.2.2.2.2.2.2.2.2.2.2.2.2.1 bt102.2.2.2.2.2.2.2.2.2.2.2.2.2.1 bt102.2.2.2.2.2.2.2.2.2.2.2.2.2.2.1 bt102.2.2.2.2.2.2.2.2.2.2.2.2.2.2.2.1 bt102.2.2.2.2.2.2.2.2.2.2.2.2.2.2.2.2).bind fun bt135 => (laws_FnMoved.j0 k bt102.2.2.2.2.2.2.2.2.2.2.2.2.2.2.1 bt102.2.2.2.2.2.2.2.2.2.2.2.2.2.2.2.1 bt102.2.2.2.2.2.2.2.2.2.2.2.2.2.2.2.2 (!(bt120.1 == bt135.1) || (!(bt120.2.1 == bt135.2.1) || (!(bt120.2.2.1 == bt135.2.2.1) || (!(bt120.2.2.2.1 == bt135.2.2.2.1) || (!(bt120.2.2.2.2.1 == bt135.2.2.2.2.1) || (!(bt120.2.2.2.2.2.1 == bt135.2.2.2.2.2.1) || (!(bt120.2.2.2.2.2.2.1 == bt135.2.2.2.2.2.2.1) || (!(bt120.2.2.2.2.2.2.2.1 == bt135.2.2.2.2.2.2.2.1) || (!(bt120.2.2.2.2.2.2.2.2.1 == bt135.2.2.2.2.2.2.2.2.1) || (!(bt120.2.2.2.2.2.2.2.2.2.1 == bt135.2.2.2.2.2.2.2.2.2.1) || (!(bt120.2.2.2.2.2.2.2.2.2.2.1 == bt135.2.2.2.2.2.2.2.2.2.2.1) || (!(bt120.2.2.2.2.2.2.2.2.2.2.2.1 == bt135.2.2.2.2.2.2.2.2.2.2.2.1) || (!(bt120.2.2.2.2.2.2.2.2.2.2.2.2.1 == bt135.2.2.2.2.2.2.2.2.2.2.2.2.1) || (!(bt120.2.2.2.2.2.2.2.2.2.2.2.2.2 == bt135.2.2.2.2.2.2.2.2.2.2.2.2.2))))))))))))))) bt102.1 bt102.2.1 bt102.2.2.1 bt102.2.2.2.1 bt102.2.2.2.2.1 bt102.2.2.2.2.2.1 bt102.2.2.2.2.2.2.1 bt102.2.2.2.2.2.2.2.1 bt102.2.2.2.2.2.2.2.2.1 bt102.2.2.2.2.2.2.2.2.2.1 bt102.2.2.2.2.2.2.2.2.2.2.1 bt102.2.2.2.2.2.2.2.2.2.2.2.1 bt102.2.2.2.2.2.2.2.2.2.2.2.2.1 bt102.2.2.2.2.2.2.2.2.2.2.2.2.2.1 bt120.1 bt120.2.1 bt120.2.2.1 bt120.2.2.2.1 bt120.2.2.2.2.1 bt120.2.2.2.2.2.1 bt120.2.2.2.2.2.2.1 bt120.2.2.2.2.2.2.2.1 bt120.2.2.2.2.2.2.2.2.1 bt120.2.2.2.2.2.2.2.2.2.1 bt120.2.2.2.2.2.2.2.2.2.2.1 bt120.2.2.2.2.2.2.2.2.2.2.2.1 bt120.2.2.2.2.2.2.2.2.2.2.2.2.1 bt120.2.2.2.2.2.2.2.2.2.2.2.2.2)))))) = some r := h
  clear h
  replace H := Option.bind_eq_some_iff.mp H
  obtain ⟨t101, A20, H⟩ := H
  replace H : (if t101 = true then (some true) else ((spec_DrawFairMove.f k l0).bind fun bt102 => ((impl_FairMove.f k bt102.1 bt102.2.1 bt102.2.2.1 bt102.2.2.2.1 bt102.2.2.2.2.1 bt102.2.2.2.2.2.1 bt102.2.2.2.2.2.2.1 bt102.2.2.2.2.2.2.2.1 bt102.2.2.2.2.2.2.2.2.1 bt102.2.2.2.2.2.2.2.2.2.1 bt102.2.2.2.2.2.2.2.2.2.2.1 bt102.2.2.2.2.2.2.2.2.2.2.2.1 bt102.2.2.2.2.2.2.2.2.2.2.2.2.1 bt102.2.2.2.2.2.2.2.2.2.2.2.2.2.1 bt102.2.2.2.2.2.2.2.2.2.2.2.2.2.2.1 bt102.2.2.2.2.2.2.2.2.2.2.2.2.2.2.2.1 bt102.2.2.2.2.2.2.2.2.2.2.2.2.2.2.2.2).bind fun bt120 => ((spec_FairMove.f k bt102.1 bt102.2.1 bt102.2.2.1 bt102.2.2.2.1 bt102.2.2.2.2.1 bt102.2.2.2.2.2.1 bt102.2.2.2.2.2.2.1 bt102.2.2.2.2.2.2.2.1 bt102.2.2.2.2.2.2.2.2.1 bt102.2.2.2.2.2.2.2.2.2.1 bt102.2.2.2.2.2.2.2.2.2.2.1 bt102.2.2.2.2.2.2.2.2.2.2.2.1 bt102.2.2.2.2.2.2.2.2.2.2.2.2.1 bt102.2.2.2.2.2.2.2.2.2.2.2.2.2.1 bt102.2.2.2.2.2.2.2.2.2.2.2.2.2.2.1 bt102.2.2.2.2.2.2.2.2.2.2.2.2.2.2.2.1 bt102.2.2.2.2.2.2.2.2.2.2.2.2.2.2.2.2).bind fun bt135 => (laws_FnMoved.j0 k bt102.2.2.2.2.2.2.2.2.2.2.2.2.2.2.1 bt102.2.2.2.2.2.2.2.2.2.2.2.2.2.2.2.1 bt102.2.2.2.2.2.2.2.2.2.2.2.2.2.2.2.2 (!(bt120.1 == bt135.1) || (!(bt120.2.1 == bt135.2.1) || (!(bt120.2.2.1 == bt135.2.2.1) || (!(bt120.2.2.2.1 == bt135.2.2.2.1) || (!(bt120.2.2.2.2.1 == bt135.2.2.2.2.1) || (!(bt120.2.2.2.2.2.1 == bt135.2.2.2.2.2.1) || (!(bt120.2.2.2.2.2.2.1 == bt135.2.2.2.2.2.2.1) || (!(bt120.2.2.2.2.2.2.2.1 == bt135.2.2.2.2.2.2.2.1) || (!(bt120.2.2.2.2.2.2.2.2.1 == bt135.2.2.2.2.2.2.2.2.1) || (!(bt120.2.2.2.2.2.2.2.2.2.1 == bt135.2.2.2.2.2.2.2.2.2.1) || (!(bt120.2.2.2.2.2.2.2.2.2.2.1 == bt135.2.2.2.2.2.2.2.2.2.2.1) || (!(bt120.2.2.2.2.2.2.2.2.2.2.2.1 == bt135.2.2.2.2.2.2.2.2.2.2.2.1) || (!(bt120.2.2.2.2.2.2.2.2.2.2.2.2.1 == bt135.2.2.2.2.2.2.2.2.2.2.2.2.1) || (!(bt120.2.2.2.2.2.2.2.2.2.2.2.2.2 == bt135.2.2.2.2.2.2.2.2.2.2.2.2.2))))))))))))))) bt102.1 bt102.2.1 bt102.2.2.1 bt102.2.2.2.1 bt102.2.2.2.2.1 bt102.2.2.2.2.2.1 bt102.2.2.2.2.2.2.1 bt102.2.2.2.2.2.2.2.1 bt102.2.2.2.2.2.2.2.2.1 bt102.2.2.2.2.2.2.2.2.2.1 bt102.2.2.2.2.2.2.2.2.2.2.1 bt102.2.2.2.2.2.2.2.2.2.2.2.1 bt102.2.2.2.2.2.2.2.2.2.2.2.2.1 bt102.2.2.2.2.2.2.2.2.2.2.2.2.2.1 bt120.1 bt120.2.1 bt120.2.2.1 bt120.2.2.2.1 bt120.2.2.2.2.1 bt120.2.2.2.2.2.1 bt120.2.2.2.2.2.2.1 bt120.2.2.2.2.2.2.2.1 bt120.2.2.2.2.2.2.2.2.1 bt120.2.2.2.2.2.2.2.2.2.1 bt120.2.2.2.2.2.2.2.2.2.2.1 bt120.2.2.2.2.2.2.2.2.2.2.2.1 bt120.2.2.2.2.2.2.2.2.2.2.2.2.1 bt120.2.2.2.2.2.2.2.2.2.2.2.2.2))))) = some r := H
  have A2 := Aside0.mk A20
  clear A20
  by_cases c3 : t101 = true
  · subst c3
    have H1 : (some true) = some r := by rw [if_pos rfl] at H; exact H
    clear H
    have H := H1
    clear H1
    obtain rfl := Option.some.inj H
    go_enter Try.func13, Try.ntmps13
    go_wp2_with (first | ((with_reducible refine gate_callee (f := 19) rfl ?_); refine goesL_ (some 10) rfl rfl Try.func19 (by kernel_rfl) rfl #[.slice A0 l0.length c0] rfl (by (try simp only [List.map_toArray, List.map_cons, List.map_nil]); first | done | rfl | (simp only [List.length_drop, List.length_take]; rfl)) ?_; (with_reducible refine (laws_big.calls _ _ l0 true _ ?side1 ?side2 A2.out).mono ?_); (case side1 => repeat (first | exact HR0.out | (with_reducible refine Kd.C_alloc ?_ _) | (with_reducible refine Kd.C_drewN ?_ _) | (with_reducible refine Kd.C_drew ?_))); (case side2 => exact HC0.out); rintro e w' ⟨rfl, ⟨nd, rfl⟩⟩; refine ⟨_, rfl, ?_⟩))
    all_goals go_ret
    all_goals exact ⟨by first | rfl | (simp <;> rfl) | (simp [*] <;> rfl), by repeat (first | (with_reducible first | exact HB.out | apply beA | apply beD | apply bed) | exact HB.out)⟩
  replace c3 := Bool.eq_false_iff.mpr c3
  subst c3
  have H1 : ((spec_DrawFairMove.f k l0).bind fun bt102 => ((impl_FairMove.f k bt102.1 bt102.2.1 bt102.2.2.1 bt102.2.2.2.1 bt102.2.2.2.2.1 bt102.2.2.2.2.2.1 bt102.2.2.2.2.2.2.1 bt102.2.2.2.2.2.2.2.1 bt102.2.2.2.2.2.2.2.2.1 bt102.2.2.2.2.2.2.2.2.2.1 bt102.2.2.2.2.2.2.2.2.2.2.1 bt102.2.2.2.2.2.2.2.2.2.2.2.1 bt102.2.2.2.2.2.2.2.2.2.2.2.2.1 bt102.2.2.2.2.2.2.2.2.2.2.2.2.2.1 bt102.2.2.2.2.2.2.2.2.2.2.2.2.2.2.1 bt102.2.2.2.2.2.2.2.2.2.2.2.2.2.2.2.1 bt102.2.2.2.2.2.2.2.2.2.2.2.2.2.2.2.2).bind fun bt120 => ((spec_FairMove.f k bt102.1 bt102.2.1 bt102.2.2.1 bt102.2.2.2.1 bt102.2.2.2.2.1 bt102.2.2.2.2.2.1 bt102.2.2.2.2.2.2.1 bt102.2.2.2.2.2.2.2.1 bt102.2.2.2.2.2.2.2.2.1 bt102.2.2.2.2.2.2.2.2.2.1 bt102.2.2.2.2.2.2.2.2.2.2.1 bt102.2.2.2.2.2.2.2.2.2.2.2.1 bt102.2.2.2.2.2.2.2.2.2.2.2.2.1 bt102.2.2.2.2.2.2.2.2.2.2.2.2.2.1 bt102.2.2.2.2.2.2.2.2.2.2.2.2.2.2.1 bt102.2.2.2.2.2.2.2.2.2.2.2.2.2.2.2.1 bt102.2.2.2.2.2.2.2.2.2.2.2.2.2.2.2.2).bind fun bt135 => (laws_FnMoved.j0 k bt102.2.2.2.2.2.2.2.2.2.2.2.2.2.2.1 bt102.2.2.2.2.2.2.2.2.2.2.2.2.2.2.2.1 bt102.2.2.2.2.2.2.2.2.2.2.2.2.2.2.2.2 (!(bt120.1 == bt135.1) || (!(bt120.2.1 == bt135.2.1) || (!(bt120.2.2.1 == bt135.2.2.1) || (!(bt120.2.2.2.1 == bt135.2.2.2.1) || (!(bt120.2.2.2.2.1 == bt135.2.2.2.2.1) || (!(bt120.2.2.2.2.2.1 == bt135.2.2.2.2.2.1) || (!(bt120.2.2.2.2.2.2.1 == bt135.2.2.2.2.2.2.1) || (!(bt120.2.2.2.2.2.2.2.1 == bt135.2.2.2.2.2.2.2.1) || (!(bt120.2.2.2.2.2.2.2.2.1 == bt135.2.2.2.2.2.2.2.2.1) || (!(bt120.2.2.2.2.2.2.2.2.2.1 == bt135.2.2.2.2.2.2.2.2.2.1) || (!(bt120.2.2.2.2.2.2.2.2.2.2.1 == bt135.2.2.2.2.2.2.2.2.2.2.1) || (!(bt120.2.2.2.2.2.2.2.2.2.2.2.1 == bt135.2.2.2.2.2.2.2.2.2.2.2.1) || (!(bt120.2.2.2.2.2.2.2.2.2.2.2.2.1 == bt135.2.2.2.2.2.2.2.2.2.2.2.2.1) || (!(bt120.2.2.2.2.2.2.2.2.2.2.2.2.2 == bt135.2.2.2.2.2.2.2.2.2.2.2.2.2))))))))))))))) bt102.1 bt102.2.1 bt102.2.2.1 bt102.2.2.2.1 bt102.2.2.2.2.1 bt102.2.2.2.2.2.1 bt102.2.2.2.2.2.2.1 bt102.2.2.2.2.2.2.2.1 bt102.2.2.2.2.2.2.2.2.1 bt102.2.2.2.2.2.2.2.2.2.1 bt102.2.2.2.2.2.2.2.2.2.2.1 bt102.2.2.2.2.2.2.2.2.2.2.2.1 bt102.2.2.2.2.2.2.2.2.2.2.2.2.1 bt102.2.2.2.2.2.2.2.2.2.2.2.2.2.1 bt120.1 bt120.2.1 bt120.2.2.1 bt120.2.2.2.1 bt120.2.2.2.2.1 bt120.2.2.2.2.2.1 bt120.2.2.2.2.2.2.1 bt120.2.2.2.2.2.2.2.1 bt120.2.2.2.2.2.2.2.2.1 bt120.2.2.2.2.2.2.2.2.2.1 bt120.2.2.2.2.2.2.2.2.2.2.1 bt120.2.2.2.2.2.2.2.2.2.2.2.1 bt120.2.2.2.2.2.2.2.2.2.2.2.2.1 bt120.2.2.2.2.2.2.2.2.2.2.2.2.2)))) = some r := by rw [if_neg (show ¬ (false = true) by decide)] at H; exact H
  clear H
  have H := H1
  clear H1
  replace H := Option.bind_eq_some_iff.mp H
  obtain ⟨⟨t102, t103, t104, t105, t106, t107, t108, t109, t110, t111, t112, t113, t114, t115, t116, t117, t118⟩, A40, H⟩ := H
  replace H : ((impl_FairMove.f k t102 t103 t104 t105 t106 t107 t108 t109 t110 t111 t112 t113 t114 t115 t116 t117 t118).bind fun bt120 => ((spec_FairMove.f k t102 t103 t104 t105 t106 t107 t108 t109 t110 t111 t112 t113 t114 t115 t116 t117 t118).bind fun bt135 => (laws_FnMoved.j0 k t116 t117 t118 (!(bt120.1 == bt135.1) || (!(bt120.2.1 == bt135.2.1) || (!(bt120.2.2.1 == bt135.2.2.1) || (!(bt120.2.2.2.1 == bt135.2.2.2.1) || (!(bt120.2.2.2.2.1 == bt135.2.2.2.2.1) || (!(bt120.2.2.2.2.2.1 == bt135.2.2.2.2.2.1) || (!(bt120.2.2.2.2.2.2.1 == bt135.2.2.2.2.2.2.1) || (!(bt120.2.2.2.2.2.2.2.1 == bt135.2.2.2.2.2.2.2.1) || (!(bt120.2.2.2.2.2.2.2.2.1 == bt135.2.2.2.2.2.2.2.2.1) || (!(bt120.2.2.2.2.2.2.2.2.2.1 == bt135.2.2.2.2.2.2.2.2.2.1) || (!(bt120.2.2.2.2.2.2.2.2.2.2.1 == bt135.2.2.2.2.2.2.2.2.2.2.1) || (!(bt120.2.2.2.2.2.2.2.2.2.2.2.1 == bt135.2.2.2.2.2.2.2.2.2.2.2.1) || (!(bt120.2.2.2.2.2.2.2.2.2.2.2.2.1 == bt135.2.2.2.2.2.2.2.2.2.2.2.2.1) || (!(bt120.2.2.2.2.2.2.2.2.2.2.2.2.2 == bt135.2.2.2.2.2.2.2.2.2.2.2.2.2))))))))))))))) t102 t103 t104 t105 t106 t107 t108 t109 t110 t111 t112 t113 t114 t115 bt120.1 bt120.2.1 bt120.2.2.1 bt120.2.2.2.1 bt120.2.2.2.2.1 bt120.2.2.2.2.2.1 bt120.2.2.2.2.2.2.1 bt120.2.2.2.2.2.2.2.1 bt120.2.2.2.2.2.2.2.2.1 bt120.2.2.2.2.2.2.2.2.2.1 bt120.2.2.2.2.2.2.2.2.2.2.1 bt120.2.2.2.2.2.2.2.2.2.2.2.1 bt120.2.2.2.2.2.2.2.2.2.2.2.2.1 bt120.2.2.2.2.2.2.2.2.2.2.2.2.2))) = some r := H
  have A4 := Aside0.mk A40
  clear A40
  replace H := Option.bind_eq_some_iff.mp H
  obtain ⟨⟨t120, t121, t122, t123, t124, t125, t126, t127, t128, t129, t130, t131, t132, t133⟩, A50, H⟩ := H
  replace H : ((spec_FairMove.f k t102 t103 t104 t105 t106 t107 t108 t109 t110 t111 t112 t113 t114 t115 t116 t117 t118).bind fun bt135 => (laws_FnMoved.j0 k t116 t117 t118 (!(t120 == bt135.1) || (!(t121 == bt135.2.1) || (!(t122 == bt135.2.2.1) || (!(t123 == bt135.2.2.2.1) || (!(t124 == bt135.2.2.2.2.1) || (!(t125 == bt135.2.2.2.2.2.1) || (!(t126 == bt135.2.2.2.2.2.2.1) || (!(t127 == bt135.2.2.2.2.2.2.2.1) || (!(t128 == bt135.2.2.2.2.2.2.2.2.1) || (!(t129 == bt135.2.2.2.2.2.2.2.2.2.1) || (!(t130 == bt135.2.2.2.2.2.2.2.2.2.2.1) || (!(t131 == bt135.2.2.2.2.2.2.2.2.2.2.2.1) || (!(t132 == bt135.2.2.2.2.2.2.2.2.2.2.2.2.1) || (!(t133 == bt135.2.2.2.2.2.2.2.2.2.2.2.2.2))))))))))))))) t102 t103 t104 t105 t106 t107 t108 t109 t110 t111 t112 t113 t114 t115 t120 t121 t122 t123 t124 t125 t126 t127 t128 t129 t130 t131 t132 t133)) = some r := H
  have A5 := Aside0.mk A50
  clear A50
  have HC6 := Aside0.mk H
  clear H
  go_enter Try.func13, Try.ntmps13
  go_upto_region 5 with (first | ((with_reducible refine gate_callee (f := 19) rfl ?_); refine goesL_ (some 10) rfl rfl Try.func19 (by kernel_rfl) rfl #[.slice A0 l0.length c0] rfl (by (try simp only [List.map_toArray, List.map_cons, List.map_nil]); first | done | rfl | (simp only [List.length_drop, List.length_take]; rfl)) ?_; (with_reducible refine (laws_big.calls _ _ l0 false _ ?side1 ?side2 A2.out).mono ?_); (case side1 => repeat (first | exact HR0.out | (with_reducible refine Kd.C_alloc ?_ _) | (with_reducible refine Kd.C_drewN ?_ _) | (with_reducible refine Kd.C_drew ?_))); (case side2 => exact HC0.out); rintro e w' ⟨rfl, ⟨nd, rfl⟩⟩; refine ⟨_, rfl, ?_⟩) | ((with_reducible refine gate_callee (f := 56) rfl ?_); refine goesL_ (some 13) rfl rfl Try.func56 (by kernel_rfl) rfl #[.slice A0 l0.length c0] rfl (by (try simp only [List.map_toArray, List.map_cons, List.map_nil]); first | done | rfl | (simp only [List.length_drop, List.length_take]; rfl)) ?_; (with_reducible refine (spec_DrawFairMove.calls k _ _ l0 t102 t103 t104 t105 t106 t107 t108 t109 t110 t111 t112 t113 t114 t115 t116 t117 t118 _ ?side1 ?side2 A4.out).mono ?_); (case side1 => repeat (first | exact HR0.out | (with_reducible refine Kd.C_alloc ?_ _) | (with_reducible refine Kd.C_drewN ?_ _) | (with_reducible refine Kd.C_drew ?_))); (case side2 => exact HC0.out); rintro e w7 ⟨rfl, hb⟩; refine ⟨_, rfl, ?_⟩; have n0_ := aM (below_step (by repeat (first | (with_reducible first | exact HB.out | apply beA | apply beD | apply bed) | exact HB.out)) hb); clear HB; have HB := n0_; clear n0_; (try clear hb); (try clear hb2); (try clear hk); (try clear hi)) | ((with_reducible refine gate_dst (N := 3) rfl ?_); refine box_event ?hg (N := 3) ?hd (cs := tk14 0 0 0 0 false 0 0 0 0 0 0 0 0 0) (t := 24) ?hr ?_; (case hd => rfl); (case hg => rfl); (case hr => first | (go_simp; done) | (go_simp; rfl)); intro gb119 hg w8 hbox hb; have n0_ := aM (below_step (by repeat (first | (with_reducible first | exact HB.out | apply beA | apply beD | apply bed) | exact HB.out)) hb); have n1_ := aM (hbox); have n2_ := aM ((by rw [hg]; exact (below_size (by repeat (first | (with_reducible first | exact HB.out | apply beA | apply beD | apply bed) | exact HB.out))) : w.heap.size ≤ gb119)); have n3_ := n2_; clear HB; have HB := n0_; have BK119 := n1_; have GW119 := n2_; have GE119 := n3_; clear n0_ n1_ n2_ n3_; clear hb hbox hg; obtain ⟨hcz9_0, hcz9_1, hcz9_2, hcz9_3, hcz9_4, hcz9_5, hcz9_6, hcz9_7, hcz9_8, hcz9_9, hcz9_10, hcz9_11, hcz9_12, hcz9_13⟩ := cz14 BK119.out; have hfz9_0 := blk_frozen BK119.out) | ((with_reducible refine gate_callee (f := 57) rfl ?_); refine goesL_ (some 22) rfl rfl Try.func57 (by kernel_rfl) rfl #[.agg #[.int .i64 t102, .int .i64 t103, .int .i64 t104, .int .i64 t105, .bool t106, .int .i64 t107, .int .i64 t108, .int .i64 t109, .int .i64 t110, .int .i64 t111, .int .i64 t112, .int .i64 t113, .int .i64 t114, .int .i64 t115], .int .i64 t116, .int .i64 t117, .int .i64 t118] rfl (by (try simp only [List.map_toArray, List.map_cons, List.map_nil]); first | done | rfl | (simp only [List.length_drop, List.length_take]; rfl)) ?_; (with_reducible refine (impl_FairMove.calls k t102 t103 t104 t105 t106 t107 t108 t109 t110 t111 t112 t113 t114 t115 t116 t117 t118 t120 t121 t122 t123 t124 t125 t126 t127 t128 t129 t130 t131 t132 t133 _ A5.out).mono ?_); rintro e w10 ⟨rfl, hb⟩; refine ⟨_, rfl, ?_⟩; have n0_ := aM (blk_below (g := gb119) (o := .cells (tk14 t102 t103 t104 t105 t106 t107 t108 t109 t110 t111 t112 t113 t114 t115) 24 (0, 0)) (by (with_reducible repeat (first | apply bkD | apply bkd | apply bkA)); refine blk_put (cs := tk14 t102 t103 t104 t105 t106 t107 t108 t109 t110 t111 t112 t113 t114 0) ?_ 13 _ rfl; (with_reducible repeat (first | apply bkD | apply bkd | apply bkA)); refine blk_put (cs := tk14 t102 t103 t104 t105 t106 t107 t108 t109 t110 t111 t112 t113 0 0) ?_ 12 _ rfl; (with_reducible repeat (first | apply bkD | apply bkd | apply bkA)); refine blk_put (cs := tk14 t102 t103 t104 t105 t106 t107 t108 t109 t110 t111 t112 0 0 0) ?_ 11 _ rfl; (with_reducible repeat (first | apply bkD | apply bkd | apply bkA)); refine blk_put (cs := tk14 t102 t103 t104 t105 t106 t107 t108 t109 t110 t111 0 0 0 0) ?_ 10 _ rfl; (with_reducible repeat (first | apply bkD | apply bkd | apply bkA)); refine blk_put (cs := tk14 t102 t103 t104 t105 t106 t107 t108 t109 t110 0 0 0 0 0) ?_ 9 _ rfl; (with_reducible repeat (first | apply bkD | apply bkd | apply bkA)); refine blk_put (cs := tk14 t102 t103 t104 t105 t106 t107 t108 t109 0 0 0 0 0 0) ?_ 8 _ rfl; (with_reducible repeat (first | apply bkD | apply bkd | apply bkA)); refine blk_put (cs := tk14 t102 t103 t104 t105 t106 t107 t108 0 0 0 0 0 0 0) ?_ 7 _ rfl; (with_reducible repeat (first | apply bkD | apply bkd | apply bkA)); refine blk_put (cs := tk14 t102 t103 t104 t105 t106 t107 0 0 0 0 0 0 0 0) ?_ 6 _ rfl; (with_reducible repeat (first | apply bkD | apply bkd | apply bkA)); refine blk_put (cs := tk14 t102 t103 t104 t105 t106 0 0 0 0 0 0 0 0 0) ?_ 5 _ rfl; (with_reducible repeat (first | apply bkD | apply bkd | apply bkA)); refine blk_put (cs := tk14 t102 t103 t104 t105 false 0 0 0 0 0 0 0 0 0) ?_ 4 _ rfl; (with_reducible repeat (first | apply bkD | apply bkd | apply bkA)); refine blk_put (cs := tk14 t102 t103 t104 0 false 0 0 0 0 0 0 0 0 0) ?_ 3 _ rfl; (with_reducible repeat (first | apply bkD | apply bkd | apply bkA)); refine blk_put (cs := tk14 t102 t103 0 0 false 0 0 0 0 0 0 0 0 0) ?_ 2 _ rfl; (with_reducible repeat (first | apply bkD | apply bkd | apply bkA)); refine blk_put (cs := tk14 t102 0 0 0 false 0 0 0 0 0 0 0 0 0) ?_ 1 _ rfl; (with_reducible repeat (first | apply bkD | apply bkd | apply bkA)); refine blk_put (cs := tk14 0 0 0 0 false 0 0 0 0 0 0 0 0 0) ?_ 0 _ rfl; (with_reducible repeat (first | apply bkD | apply bkd | apply bkA)); exact BK119.out) hb); have n1_ := aM (below_step (by repeat (first | (with_reducible first | exact HB.out | apply beA | apply beD | apply bed | refine beS ?_ GE119.out) | exact HB.out)) hb); clear BK119; clear HB; have BK119 := n0_; have HB := n1_; clear n0_ n1_; (try clear hb); (try clear hb2); (try clear hk); (try clear hi)) | ((with_reducible refine gate_dst (N := 7) rfl ?_); refine box_event ?hg (N := 7) ?hd (cs := tk14 0 0 0 0 false 0 0 0 0 0 0 0 0 0) (t := 24) ?hr ?_; (case hd => rfl); (case hg => rfl); (case hr => first | (go_simp; done) | (go_simp; rfl)); intro gb134 hg w11 hbox hb; have n0_ := aM (blk_below (g := gb119) (o := .cells (tk14 t102 t103 t104 t105 t106 t107 t108 t109 t110 t111 t112 t113 t114 t115) 24 (0, 0)) (by (with_reducible repeat (first | apply bkD | apply bkd | apply bkA)); exact BK119.out) hb); have n1_ := aM (below_step (by repeat (first | (with_reducible first | exact HB.out | apply beA | apply beD | apply bed | refine beS ?_ GE119.out) | exact HB.out)) hb); have n2_ := aM (hbox); have n3_ := aM ((by rw [hg]; exact (below_size (by repeat (first | (with_reducible first | exact HB.out | apply beA | apply beD | apply bed | refine beS ?_ GE119.out) | exact HB.out))) : w.heap.size ≤ gb134)); have n4_ := n3_; have n5_ := aM ((by rw [hg]; exact Nat.ne_of_lt (blk_lt (g := gb119) (o := .cells (tk14 t102 t103 t104 t105 t106 t107 t108 t109 t110 t111 t112 t113 t114 t115) 24 (0, 0)) (by (with_reducible repeat (first | apply bkD | apply bkd | apply bkA)); exact BK119.out)) : gb119 ≠ gb134)); have n6_ := aM (n5_.out.symm); clear BK119; clear HB; have BK119 := n0_; have HB := n1_; have BK134 := n2_; have GW134 := n3_; have GE134 := n4_; have NB119_134 := n5_; have NB134_119 := n6_; clear n0_ n1_ n2_ n3_ n4_ n5_ n6_; clear hb hbox hg; have hnb12 := NB134_119.out; have hnc12 := NB119_134.out; obtain ⟨hcz13_0, hcz13_1, hcz13_2, hcz13_3, hcz13_4, hcz13_5, hcz13_6, hcz13_7, hcz13_8, hcz13_9, hcz13_10, hcz13_11, hcz13_12, hcz13_13⟩ := cz14 BK134.out; have hfz13_0 := blk_frozen BK134.out))
  (try simp only [Act.put, List.setIfInBounds_toArray, List.set_cons_zero, List.set_cons_succ])
  go_cut [29] (fun v29 wc => ∃ (kq : Nat) (x29_5 : Bool), v29 = .bool x29_5 ∧ Aside0 (laws_FnMoved.j0 kq t116 t117 t118 x29_5 t102 t103 t104 t105 t106 t107 t108 t109 t110 t111 t112 t113 t114 t115 t120 t121 t122 t123 t124 t125 t126 t127 t128 t129 t130 t131 t132 t133 = some r) ∧ Aside0 (kq ≤ k) ∧ Aside0 (wc.heap[gb119]? = some (.cells #[.int .i64 t102, .int .i64 t103, .int .i64 t104, .int .i64 t105, .bool t106, .int .i64 t107, .int .i64 t108, .int .i64 t109, .int .i64 t110, .int .i64 t111, .int .i64 t112, .int .i64 t113, .int .i64 t114, .int .i64 t115] 24 (0, 0))) ∧ Aside0 (wc.heap[gb134]? = some (.cells #[.int .i64 t120, .int .i64 t121, .int .i64 t122, .int .i64 t123, .bool t124, .int .i64 t125, .int .i64 t126, .int .i64 t127, .int .i64 t128, .int .i64 t129, .int .i64 t130, .int .i64 t131, .int .i64 t132, .int .i64 t133] 24 (0, 0))) ∧ Aside0 (Below w.heap.size w wc))
  case first =>
    have H := HC6.out
    clear HC6
    replace H := Option.bind_eq_some_iff.mp H
    obtain ⟨⟨t135, t136, t137, t138, t139, t140, t141, t142, t143, t144, t145, t146, t147, t148⟩, A140, H⟩ := H
    replace H : (laws_FnMoved.j0 k t116 t117 t118 (!(t120 == t135) || (!(t121 == t136) || (!(t122 == t137) || (!(t123 == t138) || (!(t124 == t139) || (!(t125 == t140) || (!(t126 == t141) || (!(t127 == t142) || (!(t128 == t143) || (!(t129 == t144) || (!(t130 == t145) || (!(t131 == t146) || (!(t132 == t147) || (!(t133 == t148))))))))))))))) t102 t103 t104 t105 t106 t107 t108 t109 t110 t111 t112 t113 t114 t115 t120 t121 t122 t123 t124 t125 t126 t127 t128 t129 t130 t131 t132 t133) = some r := H
    have A14 := Aside0.mk A140
    clear A140
    have H' := Aside0.mk H
    clear H
    try go_wp2
    have n0_ : Aside0 (((((((((((((((w11.setCell ⟨gb134, 0, none⟩ (.int .i64 t120)).setCell ⟨gb134, 1, none⟩ (.int .i64 t121)).setCell ⟨gb134, 2, none⟩ (.int .i64 t122)).setCell ⟨gb134, 3, none⟩ (.int .i64 t123)).setCell ⟨gb134, 4, none⟩ (.bool t124)).setCell ⟨gb134, 5, none⟩ (.int .i64 t125)).setCell ⟨gb134, 6, none⟩ (.int .i64 t126)).setCell ⟨gb134, 7, none⟩ (.int .i64 t127)).setCell ⟨gb134, 8, none⟩ (.int .i64 t128)).setCell ⟨gb134, 9, none⟩ (.int .i64 t129)).setCell ⟨gb134, 10, none⟩ (.int .i64 t130)).setCell ⟨gb134, 11, none⟩ (.int .i64 t131)).setCell ⟨gb134, 12, none⟩ (.int .i64 t132)).setCell ⟨gb134, 13, none⟩ (.int .i64 t133)).heap[gb119]? = some (.cells #[.int .i64 t102, .int .i64 t103, .int .i64 t104, .int .i64 t105, .bool t106, .int .i64 t107, .int .i64 t108, .int .i64 t109, .int .i64 t110, .int .i64 t111, .int .i64 t112, .int .i64 t113, .int .i64 t114, .int .i64 t115] 24 (0, 0))) := ⟨by (with_reducible repeat (first | apply bkD | apply bkd | apply bkA)); refine blk_far ?_ NB119_134.out _; (with_reducible repeat (first | apply bkD | apply bkd | apply bkA)); refine blk_far ?_ NB119_134.out _; (with_reducible repeat (first | apply bkD | apply bkd | apply bkA)); refine blk_far ?_ NB119_134.out _; (with_reducible repeat (first | apply bkD | apply bkd | apply bkA)); refine blk_far ?_ NB119_134.out _; (with_reducible repeat (first | apply bkD | apply bkd | apply bkA)); refine blk_far ?_ NB119_134.out _; (with_reducible repeat (first | apply bkD | apply bkd | apply bkA)); refine blk_far ?_ NB119_134.out _; (with_reducible repeat (first | apply bkD | apply bkd | apply bkA)); refine blk_far ?_ NB119_134.out _; (with_reducible repeat (first | apply bkD | apply bkd | apply bkA)); refine blk_far ?_ NB119_134.out _; (with_reducible repeat (first | apply bkD | apply bkd | apply bkA)); refine blk_far ?_ NB119_134.out _; (with_reducible repeat (first | apply bkD | apply bkd | apply bkA)); refine blk_far ?_ NB119_134.out _; (with_reducible repeat (first | apply bkD | apply bkd | apply bkA)); refine blk_far ?_ NB119_134.out _; (with_reducible repeat (first | apply bkD | apply bkd | apply bkA)); refine blk_far ?_ NB119_134.out _; (with_reducible repeat (first | apply bkD | apply bkd | apply bkA)); refine blk_far ?_ NB119_134.out _; (with_reducible repeat (first | apply bkD | apply bkd | apply bkA)); refine blk_far ?_ NB119_134.out _; (with_reducible repeat (first | apply bkD | apply bkd | apply bkA)); exact BK119.out⟩
    have n1_ : Aside0 (((((((((((((((w11.setCell ⟨gb134, 0, none⟩ (.int .i64 t120)).setCell ⟨gb134, 1, none⟩ (.int .i64 t121)).setCell ⟨gb134, 2, none⟩ (.int .i64 t122)).setCell ⟨gb134, 3, none⟩ (.int .i64 t123)).setCell ⟨gb134, 4, none⟩ (.bool t124)).setCell ⟨gb134, 5, none⟩ (.int .i64 t125)).setCell ⟨gb134, 6, none⟩ (.int .i64 t126)).setCell ⟨gb134, 7, none⟩ (.int .i64 t127)).setCell ⟨gb134, 8, none⟩ (.int .i64 t128)).setCell ⟨gb134, 9, none⟩ (.int .i64 t129)).setCell ⟨gb134, 10, none⟩ (.int .i64 t130)).setCell ⟨gb134, 11, none⟩ (.int .i64 t131)).setCell ⟨gb134, 12, none⟩ (.int .i64 t132)).setCell ⟨gb134, 13, none⟩ (.int .i64 t133)).heap[gb134]? = some (.cells #[.int .i64 t120, .int .i64 t121, .int .i64 t122, .int .i64 t123, .bool t124, .int .i64 t125, .int .i64 t126, .int .i64 t127, .int .i64 t128, .int .i64 t129, .int .i64 t130, .int .i64 t131, .int .i64 t132, .int .i64 t133] 24 (0, 0))) := ⟨by (with_reducible repeat (first | apply bkD | apply bkd | apply bkA)); refine blk_put (cs := tk14 t120 t121 t122 t123 t124 t125 t126 t127 t128 t129 t130 t131 t132 0) ?_ 13 _ rfl; (with_reducible repeat (first | apply bkD | apply bkd | apply bkA)); refine blk_put (cs := tk14 t120 t121 t122 t123 t124 t125 t126 t127 t128 t129 t130 t131 0 0) ?_ 12 _ rfl; (with_reducible repeat (first | apply bkD | apply bkd | apply bkA)); refine blk_put (cs := tk14 t120 t121 t122 t123 t124 t125 t126 t127 t128 t129 t130 0 0 0) ?_ 11 _ rfl; (with_reducible repeat (first | apply bkD | apply bkd | apply bkA)); refine blk_put (cs := tk14 t120 t121 t122 t123 t124 t125 t126 t127 t128 t129 0 0 0 0) ?_ 10 _ rfl; (with_reducible repeat (first | apply bkD | apply bkd | apply bkA)); refine blk_put (cs := tk14 t120 t121 t122 t123 t124 t125 t126 t127 t128 0 0 0 0 0) ?_ 9 _ rfl; (with_reducible repeat (first | apply bkD | apply bkd | apply bkA)); refine blk_put (cs := tk14 t120 t121 t122 t123 t124 t125 t126 t127 0 0 0 0 0 0) ?_ 8 _ rfl; (with_reducible repeat (first | apply bkD | apply bkd | apply bkA)); refine blk_put (cs := tk14 t120 t121 t122 t123 t124 t125 t126 0 0 0 0 0 0 0) ?_ 7 _ rfl; (with_reducible repeat (first | apply bkD | apply bkd | apply bkA)); refine blk_put (cs := tk14 t120 t121 t122 t123 t124 t125 0 0 0 0 0 0 0 0) ?_ 6 _ rfl; (with_reducible repeat (first | apply bkD | apply bkd | apply bkA)); refine blk_put (cs := tk14 t120 t121 t122 t123 t124 0 0 0 0 0 0 0 0 0) ?_ 5 _ rfl; (with_reducible repeat (first | apply bkD | apply bkd | apply bkA)); refine blk_put (cs := tk14 t120 t121 t122 t123 false 0 0 0 0 0 0 0 0 0) ?_ 4 _ rfl; (with_reducible repeat (first | apply bkD | apply bkd | apply bkA)); refine blk_put (cs := tk14 t120 t121 t122 0 false 0 0 0 0 0 0 0 0 0) ?_ 3 _ rfl; (with_reducible repeat (first | apply bkD | apply bkd | apply bkA)); refine blk_put (cs := tk14 t120 t121 0 0 false 0 0 0 0 0 0 0 0 0) ?_ 2 _ rfl; (with_reducible repeat (first | apply bkD | apply bkd | apply bkA)); refine blk_put (cs := tk14 t120 0 0 0 false 0 0 0 0 0 0 0 0 0) ?_ 1 _ rfl; (with_reducible repeat (first | apply bkD | apply bkd | apply bkA)); refine blk_put (cs := tk14 0 0 0 0 false 0 0 0 0 0 0 0 0 0) ?_ 0 _ rfl; (with_reducible repeat (first | apply bkD | apply bkd | apply bkA)); exact BK134.out⟩
    have n2_ : Aside0 (Below w.heap.size w ((((((((((((((w11.setCell ⟨gb134, 0, none⟩ (.int .i64 t120)).setCell ⟨gb134, 1, none⟩ (.int .i64 t121)).setCell ⟨gb134, 2, none⟩ (.int .i64 t122)).setCell ⟨gb134, 3, none⟩ (.int .i64 t123)).setCell ⟨gb134, 4, none⟩ (.bool t124)).setCell ⟨gb134, 5, none⟩ (.int .i64 t125)).setCell ⟨gb134, 6, none⟩ (.int .i64 t126)).setCell ⟨gb134, 7, none⟩ (.int .i64 t127)).setCell ⟨gb134, 8, none⟩ (.int .i64 t128)).setCell ⟨gb134, 9, none⟩ (.int .i64 t129)).setCell ⟨gb134, 10, none⟩ (.int .i64 t130)).setCell ⟨gb134, 11, none⟩ (.int .i64 t131)).setCell ⟨gb134, 12, none⟩ (.int .i64 t132)).setCell ⟨gb134, 13, none⟩ (.int .i64 t133))) := ⟨by repeat (first | (with_reducible first | exact HB.out | apply beA | apply beD | apply bed | refine beS ?_ GE119.out | refine beS ?_ GE134.out) | exact HB.out)⟩
    (try clear BK119)
    (try clear BK134)
    (try clear HB)
    generalize ((((((((((((((w11.setCell ⟨gb134, 0, none⟩ (.int .i64 t120)).setCell ⟨gb134, 1, none⟩ (.int .i64 t121)).setCell ⟨gb134, 2, none⟩ (.int .i64 t122)).setCell ⟨gb134, 3, none⟩ (.int .i64 t123)).setCell ⟨gb134, 4, none⟩ (.bool t124)).setCell ⟨gb134, 5, none⟩ (.int .i64 t125)).setCell ⟨gb134, 6, none⟩ (.int .i64 t126)).setCell ⟨gb134, 7, none⟩ (.int .i64 t127)).setCell ⟨gb134, 8, none⟩ (.int .i64 t128)).setCell ⟨gb134, 9, none⟩ (.int .i64 t129)).setCell ⟨gb134, 10, none⟩ (.int .i64 t130)).setCell ⟨gb134, 11, none⟩ (.int .i64 t131)).setCell ⟨gb134, 12, none⟩ (.int .i64 t132)).setCell ⟨gb134, 13, none⟩ (.int .i64 t133)) = w15 at n0_ n1_ n2_ ⊢
    have BK119 := n0_
    have BK134 := n1_
    have HB := n2_
    clear n0_ n1_ n2_
    have n0_ := aM (blk_drew BK119.out)
    have n1_ := aM (blk_drew BK134.out)
    have n2_ := aM (below_drew1 HB.out)
    clear BK119
    clear BK134
    clear HB
    have BK119 := n0_
    have BK134 := n1_
    have HB := n2_
    clear n0_ n1_ n2_
    refine start_ (n := 7) (S := fun w' => cb14t w' gb134 (.int .i64 t120) (.int .i64 t121) (.int .i64 t122) (.int .i64 t123) (.bool t124) (.int .i64 t125) (.int .i64 t126) (.int .i64 t127) (.int .i64 t128) (.int .i64 t129) (.int .i64 t130) (.int .i64 t131) (.int .i64 t132) (.int .i64 t133) (cb14 w' gb119 (.int .i64 t102) (.int .i64 t103) (.int .i64 t104) (.int .i64 t105) (.bool t106) (.int .i64 t107) (.int .i64 t108) (.int .i64 t109) (.int .i64 t110) (.int .i64 t111) (.int .i64 t112) (.int .i64 t113) (.int .i64 t114) (.int .i64 t115))) (ds := []) #[false, false, false, false, false, false, false] (by kernel_rfl) rfl rfl ⟨(blk_cell BK134.out 0).trans rfl, (blk_cell BK134.out 1).trans rfl, (blk_cell BK134.out 2).trans rfl, (blk_cell BK134.out 3).trans rfl, (blk_cell BK134.out 4).trans rfl, (blk_cell BK134.out 5).trans rfl, (blk_cell BK134.out 6).trans rfl, (blk_cell BK134.out 7).trans rfl, (blk_cell BK134.out 8).trans rfl, (blk_cell BK134.out 9).trans rfl, (blk_cell BK134.out 10).trans rfl, (blk_cell BK134.out 11).trans rfl, (blk_cell BK134.out 12).trans rfl, (blk_cell BK134.out 13).trans rfl, (blk_cell BK119.out 0).trans rfl, (blk_cell BK119.out 1).trans rfl, (blk_cell BK119.out 2).trans rfl, (blk_cell BK119.out 3).trans rfl, (blk_cell BK119.out 4).trans rfl, (blk_cell BK119.out 5).trans rfl, (blk_cell BK119.out 6).trans rfl, (blk_cell BK119.out 7).trans rfl, (blk_cell BK119.out 8).trans rfl, (blk_cell BK119.out 9).trans rfl, (blk_cell BK119.out 10).trans rfl, (blk_cell BK119.out 11).trans rfl, (blk_cell BK119.out 12).trans rfl, (blk_cell BK119.out 13).trans rfl⟩ (fun hHeld => ?_)
    generalize w15.drew = w16 at BK119 BK134 HB hHeld ⊢
    refine pure_ (i := 2) (N := some 25) (v := ?_) (a' := ?_) #[false, false, true, false, false, false, false] rfl rfl (by kernel_rfl) (fun _ _ _ h => h) (Or.inl ⟨by rfl, ?_⟩) ?_ ?_
    rotate_left
    · intro w'
      go_simp
      with_reducible rfl
    rotate_left
    · simp only [Act.put, List.setIfInBounds_toArray, List.set_cons_zero, List.set_cons_succ, i64_w, i32_w]
      rfl
    refine pure_ (i := 3) (N := some 26) (v := ?_) (a' := ?_) #[false, false, true, true, false, false, false] rfl rfl (by kernel_rfl) (fun _ _ _ h => h) (Or.inl ⟨by rfl, ?_⟩) ?_ ?_
    rotate_left
    · intro w'
      go_simp
      with_reducible rfl
    rotate_left
    · simp only [Act.put, List.setIfInBounds_toArray, List.set_cons_zero, List.set_cons_succ, i64_w, i32_w]
      rfl
    refine pure_ (i := 4) (N := some 27) (v := ?_) (a' := ?_) #[false, false, true, true, true, false, false] rfl rfl (by kernel_rfl) (fun _ _ _ h => h) (Or.inl ⟨by rfl, ?_⟩) ?_ ?_
    rotate_left
    · intro w'
      go_simp
      with_reducible rfl
    rotate_left
    · simp only [Act.put, List.setIfInBounds_toArray, List.set_cons_zero, List.set_cons_succ, i64_w, i32_w]
      rfl
    refine take_ (i := 0) (N := some 23) (v := ?_) (a' := ?_) #[true, false, true, true, true, false, false] rfl rfl (by kernel_rfl) (fun _ _ _ h => h) (Or.inl ⟨by rfl, ?_⟩) hHeld ?_ ?_
    rotate_left
    · rintro w' ⟨s0, s1, s2, s3, s4, s5, s6, s7, s8, s9, s10, s11, s12, s13, s14, s15, s16, s17, s18, s19, s20, s21, s22, s23, s24, s25, s26, s27⟩
      go_simp
      with_reducible rfl
    rotate_left
    · simp only [Act.put, List.setIfInBounds_toArray, List.set_cons_zero, List.set_cons_succ, i64_w, i32_w]
      rfl
    refine take_ (i := 1) (N := some 24) (v := ?_) (a' := ?_) #[true, true, true, true, true, false, false] rfl rfl (by kernel_rfl) (fun _ _ _ h => h) (Or.inl ⟨by rfl, ?_⟩) hHeld ?_ ?_
    rotate_left
    · rintro w' ⟨s0, s1, s2, s3, s4, s5, s6, s7, s8, s9, s10, s11, s12, s13, s14, s15, s16, s17, s18, s19, s20, s21, s22, s23, s24, s25, s26, s27⟩
      go_simp
      with_reducible rfl
    rotate_left
    · simp only [Act.put, List.setIfInBounds_toArray, List.set_cons_zero, List.set_cons_succ, i64_w, i32_w]
      rfl
    refine one_ (i := 5) (N := some 28) #[true, true, true, true, true, true, false] rfl rfl (by kernel_rfl) (by decide) (fun K hK => ?_)
    refine goes_ Try.func58 (by kernel_rfl) rfl #[.agg #[.int .i64 t102, .int .i64 t103, .int .i64 t104, .int .i64 t105, .bool t106, .int .i64 t107, .int .i64 t108, .int .i64 t109, .int .i64 t110, .int .i64 t111, .int .i64 t112, .int .i64 t113, .int .i64 t114, .int .i64 t115], .int .i64 t116, .int .i64 t117, .int .i64 t118] (by rfl) rfl rfl (by (try simp only [List.map_toArray, List.map_cons, List.map_nil]); first | done | rfl | (simp only [List.length_drop, List.length_take]; rfl)) ?_
    with_reducible refine (spec_FairMove.calls k t102 t103 t104 t105 t106 t107 t108 t109 t110 t111 t112 t113 t114 t115 t116 t117 t118 t135 t136 t137 t138 t139 t140 t141 t142 t143 t144 t145 t146 t147 t148 _ A14.out).mono ?_
    rintro e w17 ⟨rfl, hb⟩
    refine ⟨_, rfl, ?_⟩
    have n0_ := aM (blk_below (g := gb119) (o := .cells (tk14 t102 t103 t104 t105 t106 t107 t108 t109 t110 t111 t112 t113 t114 t115) 24 (0, 0)) (by (with_reducible repeat (first | apply bkD | apply bkd | apply bkA)); exact BK119.out) hb)
    have n1_ := aM (blk_below (g := gb134) (o := .cells (tk14 t120 t121 t122 t123 t124 t125 t126 t127 t128 t129 t130 t131 t132 t133) 24 (0, 0)) (by (with_reducible repeat (first | apply bkD | apply bkd | apply bkA)); exact BK134.out) hb)
    have n2_ := aM (below_step (by repeat (first | (with_reducible first | exact HB.out | apply beA | apply beD | apply bed | refine beS ?_ GE119.out | refine beS ?_ GE134.out) | exact HB.out)) hb)
    clear BK119
    clear BK134
    clear HB
    have BK119 := n0_
    have BK134 := n1_
    have HB := n2_
    clear n0_ n1_ n2_
    (try clear hb)
    (try clear hb2)
    (try clear hk)
    (try clear hi)
    refine hK.out _ _ ⟨(blk_cell BK134.out 0).trans rfl, (blk_cell BK134.out 1).trans rfl, (blk_cell BK134.out 2).trans rfl, (blk_cell BK134.out 3).trans rfl, (blk_cell BK134.out 4).trans rfl, (blk_cell BK134.out 5).trans rfl, (blk_cell BK134.out 6).trans rfl, (blk_cell BK134.out 7).trans rfl, (blk_cell BK134.out 8).trans rfl, (blk_cell BK134.out 9).trans rfl, (blk_cell BK134.out 10).trans rfl, (blk_cell BK134.out 11).trans rfl, (blk_cell BK134.out 12).trans rfl, (blk_cell BK134.out 13).trans rfl, (blk_cell BK119.out 0).trans rfl, (blk_cell BK119.out 1).trans rfl, (blk_cell BK119.out 2).trans rfl, (blk_cell BK119.out 3).trans rfl, (blk_cell BK119.out 4).trans rfl, (blk_cell BK119.out 5).trans rfl, (blk_cell BK119.out 6).trans rfl, (blk_cell BK119.out 7).trans rfl, (blk_cell BK119.out 8).trans rfl, (blk_cell BK119.out 9).trans rfl, (blk_cell BK119.out 10).trans rfl, (blk_cell BK119.out 11).trans rfl, (blk_cell BK119.out 12).trans rfl, (blk_cell BK119.out 13).trans rfl⟩ (fun hHeld => ?_)
    clear hK K
    refine norm_ (a' := ?_) ?_ ?_
    rotate_left
    · show Act.put _ (some 28) _ = _
      simp only [Act.put, List.setIfInBounds_toArray, List.set_cons_zero, List.set_cons_succ, i64_w, i32_w]
      rfl
    refine pure_ (i := 6) (N := some 29) (v := ?_) (a' := ?_) #[true, true, true, true, true, true, true] rfl rfl (by kernel_rfl) (fun _ _ _ h => h) (Or.inl ⟨by rfl, ?_⟩) ?_ ?_
    rotate_left
    · intro w'
      go_simp
      with_reducible rfl
    rotate_left
    · simp only [Act.put, List.setIfInBounds_toArray, List.set_cons_zero, List.set_cons_succ, i64_w, i32_w]
      rfl
    refine done_ (by kernel_rfl) ?_
    try go_wp2
    go_meet
    case rel => exact ⟨_, ((!(t120 == t135) || (!(t121 == t136) || (!(t122 == t137) || (!(t123 == t138) || (!(t124 == t139) || (!(t125 == t140) || (!(t126 == t141) || (!(t127 == t142) || (!(t128 == t143) || (!(t129 == t144) || (!(t130 == t145) || (!(t131 == t146) || (!(t132 == t147) || (!(t133 == t148)))))))))))))))), (by first | rfl | (simp; done) | (simp [*]; done)), H', ⟨by first | omega | exact Nat.le_refl _⟩, ⟨by (with_reducible repeat (first | apply bkD | apply bkd | apply bkA)); exact BK119.out⟩, ⟨by (with_reducible repeat (first | apply bkD | apply bkd | apply bkA)); exact BK134.out⟩, ⟨by repeat (first | (with_reducible first | exact HB.out | apply beA | apply beD | apply bed | refine beS ?_ GE119.out | refine beS ?_ GE134.out) | exact HB.out)⟩⟩
  case rest =>
    clear HC6
    try clear c1
    try clear p2
    try clear c3
    try clear c5
    try clear c12
    try clear c13
    try clear hcz13_0
    try clear hcz13_1
    try clear hcz13_10
    try clear hcz13_11
    try clear hcz13_12
    try clear hcz13_13
    try clear hcz13_2
    try clear hcz13_3
    try clear hcz13_4
    try clear hcz13_5
    try clear hcz13_6
    try clear hcz13_7
    try clear hcz13_8
    try clear hcz13_9
    try clear hcz9_0
    try clear hcz9_1
    try clear hcz9_10
    try clear hcz9_11
    try clear hcz9_12
    try clear hcz9_13
    try clear hcz9_2
    try clear hcz9_3
    try clear hcz9_4
    try clear hcz9_5
    try clear hcz9_6
    try clear hcz9_7
    try clear hcz9_8
    try clear hcz9_9
    try clear hfz13_0
    try clear hfz9_0
    obtain ⟨kq, x29_5, rfl, HA, HJ5, BK119, BK134, HB⟩ := hcut
    cases kq with
    | zero => exact absurd HA.out (by simp [laws_FnMoved.j0])
    | succ kj5 =>
      have H := HA.out
      clear HA
      simp only [laws_FnMoved.j0] at H
      by_cases c18 : x29_5 = true
      · subst c18
        have H1 : (some false) = some r := by rw [if_pos rfl] at H; exact H
        clear H
        have H := H1
        clear H1
        obtain rfl := Option.some.inj H
        go_wp2
        all_goals go_ret
        all_goals exact ⟨by first | rfl | (simp <;> rfl) | (simp [*] <;> rfl), by repeat (first | (with_reducible first | exact HB.out | apply beA | apply beD | apply bed | refine beS ?_ GE119.out | refine beS ?_ GE134.out) | exact HB.out)⟩
      replace c18 := Bool.eq_false_iff.mpr c18
      subst c18
      have H1 : (if (t120 == t102 && (t121 == t103 && (t122 == t104 && (t123 == t105 && (t124 == t106 && (t125 == t107 && (t126 == t108 && (t127 == t109 && (t128 == t110 && (t129 == t111 && (t130 == t112 && (t131 == t113 && (t132 == t114 && (t133 == t115)))))))))))))) = true then (some true) else (if (wrap64 (t115 - t117)) < 0 then ((impl_TaskOk.f t120 t121 t122 t123 t124 t125 t126 t127 t128 t129 t130 t131 t132 t133).bind fun t149 => (if t149 = true then (if t122 = t116 then (if (wrap64 (t133 - t118)) = 0 then (if t132 = t114 then (some (t120 == t102)) else (some false)) else (some false)) else (some false)) else (some false))) else ((impl_TaskOk.f t120 t121 t122 t123 t124 t125 t126 t127 t128 t129 t130 t131 t132 t133).bind fun t150 => (if t150 = true then (if t122 = t116 then (if (wrap64 (t133 - t118)) = (wrap64 (t115 - t117)) then (if t132 = t114 then (some (t120 == t102)) else (some false)) else (some false)) else (some false)) else (some false))))) = some r := by rw [if_neg (show ¬ (false = true) by decide)] at H; exact H
      clear H
      have H := H1
      clear H1
      by_cases c19 : (t120 == t102 && (t121 == t103 && (t122 == t104 && (t123 == t105 && (t124 == t106 && (t125 == t107 && (t126 == t108 && (t127 == t109 && (t128 == t110 && (t129 == t111 && (t130 == t112 && (t131 == t113 && (t132 == t114 && (t133 == t115)))))))))))))) = true
      · rw [if_pos c19] at H
        have c19b0 : (t120 == t102 && (t121 == t103 && (t122 == t104 && (t123 == t105 && (t124 == t106 && (t125 == t107 && (t126 == t108 && (t127 == t109 && (t128 == t110 && (t129 == t111 && (t130 == t112 && (t131 == t113 && (t132 == t114 && (t133 == t115)))))))))))))) = true := c19
        (try (have c19b1 : decide (t120 = t102 && (t121 == t103 && (t122 == t104 && (t123 == t105 && (t124 == t106 && (t125 == t107 && (t126 == t108 && (t127 == t109 && (t128 == t110 && (t129 == t111 && (t130 == t112 && (t131 == t113 && (t132 == t114 && (t133 == t115)))))))))))))) = true := by simpa using c19))
        (try (have c19b2 : (t120 == t102 && (t121 == t103 && (t122 == t104 && (t123 == t105 && (t124 == t106 && (t125 == t107 && (t126 == t108 && (t127 == t109 && (t128 == t110 && (t129 == t111 && (t130 == t112 && (t131 == t113 && (t132 == t114 && (t133 == t115)))))))))))))) = true := by simpa using c19))
        clear c19
        obtain rfl := Option.some.inj H
        have hnb20 := NB134_119.out
        have hnc20 := NB119_134.out
        obtain ⟨hcz21_0, hcz21_1, hcz21_2, hcz21_3, hcz21_4, hcz21_5, hcz21_6, hcz21_7, hcz21_8, hcz21_9, hcz21_10, hcz21_11, hcz21_12, hcz21_13⟩ := cz14 BK134.out
        have hfz21_0 := blk_frozen BK134.out
        obtain ⟨hcz22_0, hcz22_1, hcz22_2, hcz22_3, hcz22_4, hcz22_5, hcz22_6, hcz22_7, hcz22_8, hcz22_9, hcz22_10, hcz22_11, hcz22_12, hcz22_13⟩ := cz14 BK119.out
        have hfz22_0 := blk_frozen BK119.out
        go_wp2
        all_goals go_ret
        all_goals exact ⟨by first | rfl | (simp <;> rfl) | (simp [*] <;> rfl), by repeat (first | (with_reducible first | exact HB.out | apply beA | apply beD | apply bed | refine beS ?_ GE119.out | refine beS ?_ GE134.out) | exact HB.out)⟩
      rw [if_neg c19] at H
      have c19b0 : (t120 == t102 && (t121 == t103 && (t122 == t104 && (t123 == t105 && (t124 == t106 && (t125 == t107 && (t126 == t108 && (t127 == t109 && (t128 == t110 && (t129 == t111 && (t130 == t112 && (t131 == t113 && (t132 == t114 && (t133 == t115)))))))))))))) = false := by simpa using c19
      (try (have c19b1 : decide (t120 = t102 && (t121 == t103 && (t122 == t104 && (t123 == t105 && (t124 == t106 && (t125 == t107 && (t126 == t108 && (t127 == t109 && (t128 == t110 && (t129 == t111 && (t130 == t112 && (t131 == t113 && (t132 == t114 && (t133 == t115)))))))))))))) = false := by simpa using c19))
      (try (have c19b2 : (t120 == t102 && (t121 == t103 && (t122 == t104 && (t123 == t105 && (t124 == t106 && (t125 == t107 && (t126 == t108 && (t127 == t109 && (t128 == t110 && (t129 == t111 && (t130 == t112 && (t131 == t113 && (t132 == t114 && (t133 == t115)))))))))))))) = false := by simpa using c19))
      (try (have c19b3 : ¬ (t120 = t102 && (t121 == t103 && (t122 == t104 && (t123 == t105 && (t124 == t106 && (t125 == t107 && (t126 == t108 && (t127 == t109 && (t128 == t110 && (t129 == t111 && (t130 == t112 && (t131 == t113 && (t132 == t114 && (t133 == t115)))))))))))))) := by simpa using c19))
      clear c19
      by_cases c23 : (wrap64 (t115 - t117)) < 0
      · rw [if_pos c23] at H
        have c23b0 : decide ((wrap64 (t115 - t117)) < 0) = true := decide_eq_true c23
        clear c23
        replace H := Option.bind_eq_some_iff.mp H
        obtain ⟨t149, A240, H⟩ := H
        replace H : (if t149 = true then (if t122 = t116 then (if (wrap64 (t133 - t118)) = 0 then (if t132 = t114 then (some (t120 == t102)) else (some false)) else (some false)) else (some false)) else (some false)) = some r := H
        have A24 := Aside0.mk A240
        clear A240
        by_cases c25 : t149 = true
        · subst c25
          have H1 : (if t122 = t116 then (if (wrap64 (t133 - t118)) = 0 then (if t132 = t114 then (some (t120 == t102)) else (some false)) else (some false)) else (some false)) = some r := by rw [if_pos rfl] at H; exact H
          clear H
          have H := H1
          clear H1
          by_cases c26 : t122 = t116
          · rw [if_pos c26] at H
            have c26b0 : (t122 == t116) = true := beq_iff_eq.mpr c26
            have c26b1 : (t122 != t116) = false := bne_eq_false_iff_eq.mpr c26
            clear c26
            by_cases c27 : (wrap64 (t133 - t118)) = 0
            · rw [if_pos c27] at H
              have c27b0 : ((wrap64 (t133 - t118)) == 0) = true := beq_iff_eq.mpr c27
              have c27b1 : ((wrap64 (t133 - t118)) != 0) = false := bne_eq_false_iff_eq.mpr c27
              clear c27
              by_cases c28 : t132 = t114
              · rw [if_pos c28] at H
                have c28b0 : (t132 == t114) = true := beq_iff_eq.mpr c28
                have c28b1 : (t132 != t114) = false := bne_eq_false_iff_eq.mpr c28
                clear c28
                obtain rfl := Option.some.inj H
                have hnb29 := NB134_119.out
                have hnc29 := NB119_134.out
                obtain ⟨hcz30_0, hcz30_1, hcz30_2, hcz30_3, hcz30_4, hcz30_5, hcz30_6, hcz30_7, hcz30_8, hcz30_9, hcz30_10, hcz30_11, hcz30_12, hcz30_13⟩ := cz14 BK134.out
                have hfz30_0 := blk_frozen BK134.out
                obtain ⟨hcz31_0, hcz31_1, hcz31_2, hcz31_3, hcz31_4, hcz31_5, hcz31_6, hcz31_7, hcz31_8, hcz31_9, hcz31_10, hcz31_11, hcz31_12, hcz31_13⟩ := cz14 BK119.out
                have hfz31_0 := blk_frozen BK119.out
                go_wp2_with (first | ((with_reducible refine gate_callee (f := 29) rfl ?_); refine goesL_ (some 40) rfl rfl Try.func29 (by kernel_rfl) rfl #[.agg #[.int .i64 t120, .int .i64 t121, .int .i64 t122, .int .i64 t123, .bool t124, .int .i64 t125, .int .i64 t126, .int .i64 t127, .int .i64 t128, .int .i64 t129, .int .i64 t130, .int .i64 t131, .int .i64 t132, .int .i64 t133]] rfl (by (try simp only [List.map_toArray, List.map_cons, List.map_nil]); first | done | rfl | (simp only [List.length_drop, List.length_take]; rfl)) ?_; (with_reducible refine (impl_TaskOk.calls t120 t121 t122 t123 t124 t125 t126 t127 t128 t129 t130 t131 t132 t133 true _ A24.out).mono ?_); rintro e w32 ⟨rfl, hb⟩; refine ⟨_, rfl, ?_⟩; have n0_ := aM (blk_below (g := gb119) (o := .cells (tk14 t102 t103 t104 t105 t106 t107 t108 t109 t110 t111 t112 t113 t114 t115) 24 (0, 0)) (by (with_reducible repeat (first | apply bkD | apply bkd | apply bkA)); exact BK119.out) hb); have n1_ := aM (blk_below (g := gb134) (o := .cells (tk14 t120 t121 t122 t123 t124 t125 t126 t127 t128 t129 t130 t131 t132 t133) 24 (0, 0)) (by (with_reducible repeat (first | apply bkD | apply bkd | apply bkA)); exact BK134.out) hb); have n2_ := aM (below_step (by repeat (first | (with_reducible first | exact HB.out | apply beA | apply beD | apply bed | refine beS ?_ GE119.out | refine beS ?_ GE134.out) | exact HB.out)) hb); clear BK119; clear BK134; clear HB; have BK119 := n0_; have BK134 := n1_; have HB := n2_; clear n0_ n1_ n2_; (try clear hb); (try clear hb2); (try clear hk); (try clear hi); obtain ⟨hcz33_0, hcz33_1, hcz33_2, hcz33_3, hcz33_4, hcz33_5, hcz33_6, hcz33_7, hcz33_8, hcz33_9, hcz33_10, hcz33_11, hcz33_12, hcz33_13⟩ := cz14 BK134.out; have hfz33_0 := blk_frozen BK134.out; obtain ⟨hcz34_0, hcz34_1, hcz34_2, hcz34_3, hcz34_4, hcz34_5, hcz34_6, hcz34_7, hcz34_8, hcz34_9, hcz34_10, hcz34_11, hcz34_12, hcz34_13⟩ := cz14 BK119.out; have hfz34_0 := blk_frozen BK119.out))
                all_goals go_ret
                all_goals exact ⟨by first | rfl | (simp <;> rfl) | (simp [*] <;> rfl), by repeat (first | (with_reducible first | exact HB.out | apply beA | apply beD | apply bed | refine beS ?_ GE119.out | refine beS ?_ GE134.out) | exact HB.out)⟩
              rw [if_neg c28] at H
              have c28b0 : (t132 == t114) = false := beq_eq_false_iff_ne.mpr c28
              have c28b1 : (t132 != t114) = true := bne_iff_ne.mpr c28
              obtain rfl := Option.some.inj H
              have hnb35 := NB134_119.out
              have hnc35 := NB119_134.out
              obtain ⟨hcz36_0, hcz36_1, hcz36_2, hcz36_3, hcz36_4, hcz36_5, hcz36_6, hcz36_7, hcz36_8, hcz36_9, hcz36_10, hcz36_11, hcz36_12, hcz36_13⟩ := cz14 BK134.out
              have hfz36_0 := blk_frozen BK134.out
              obtain ⟨hcz37_0, hcz37_1, hcz37_2, hcz37_3, hcz37_4, hcz37_5, hcz37_6, hcz37_7, hcz37_8, hcz37_9, hcz37_10, hcz37_11, hcz37_12, hcz37_13⟩ := cz14 BK119.out
              have hfz37_0 := blk_frozen BK119.out
              go_wp2_with (first | ((with_reducible refine gate_callee (f := 29) rfl ?_); refine goesL_ (some 40) rfl rfl Try.func29 (by kernel_rfl) rfl #[.agg #[.int .i64 t120, .int .i64 t121, .int .i64 t122, .int .i64 t123, .bool t124, .int .i64 t125, .int .i64 t126, .int .i64 t127, .int .i64 t128, .int .i64 t129, .int .i64 t130, .int .i64 t131, .int .i64 t132, .int .i64 t133]] rfl (by (try simp only [List.map_toArray, List.map_cons, List.map_nil]); first | done | rfl | (simp only [List.length_drop, List.length_take]; rfl)) ?_; (with_reducible refine (impl_TaskOk.calls t120 t121 t122 t123 t124 t125 t126 t127 t128 t129 t130 t131 t132 t133 true _ A24.out).mono ?_); rintro e w38 ⟨rfl, hb⟩; refine ⟨_, rfl, ?_⟩; have n0_ := aM (blk_below (g := gb119) (o := .cells (tk14 t102 t103 t104 t105 t106 t107 t108 t109 t110 t111 t112 t113 t114 t115) 24 (0, 0)) (by (with_reducible repeat (first | apply bkD | apply bkd | apply bkA)); exact BK119.out) hb); have n1_ := aM (blk_below (g := gb134) (o := .cells (tk14 t120 t121 t122 t123 t124 t125 t126 t127 t128 t129 t130 t131 t132 t133) 24 (0, 0)) (by (with_reducible repeat (first | apply bkD | apply bkd | apply bkA)); exact BK134.out) hb); have n2_ := aM (below_step (by repeat (first | (with_reducible first | exact HB.out | apply beA | apply beD | apply bed | refine beS ?_ GE119.out | refine beS ?_ GE134.out) | exact HB.out)) hb); clear BK119; clear BK134; clear HB; have BK119 := n0_; have BK134 := n1_; have HB := n2_; clear n0_ n1_ n2_; (try clear hb); (try clear hb2); (try clear hk); (try clear hi); obtain ⟨hcz39_0, hcz39_1, hcz39_2, hcz39_3, hcz39_4, hcz39_5, hcz39_6, hcz39_7, hcz39_8, hcz39_9, hcz39_10, hcz39_11, hcz39_12, hcz39_13⟩ := cz14 BK134.out; have hfz39_0 := blk_frozen BK134.out; obtain ⟨hcz40_0, hcz40_1, hcz40_2, hcz40_3, hcz40_4, hcz40_5, hcz40_6, hcz40_7, hcz40_8, hcz40_9, hcz40_10, hcz40_11, hcz40_12, hcz40_13⟩ := cz14 BK119.out; have hfz40_0 := blk_frozen BK119.out))
              all_goals go_ret
              all_goals exact ⟨by first | rfl | (simp <;> rfl) | (simp [*] <;> rfl), by repeat (first | (with_reducible first | exact HB.out | apply beA | apply beD | apply bed | refine beS ?_ GE119.out | refine beS ?_ GE134.out) | exact HB.out)⟩
            rw [if_neg c27] at H
            have c27b0 : ((wrap64 (t133 - t118)) == 0) = false := beq_eq_false_iff_ne.mpr c27
            have c27b1 : ((wrap64 (t133 - t118)) != 0) = true := bne_iff_ne.mpr c27
            obtain rfl := Option.some.inj H
            have hnb41 := NB134_119.out
            have hnc41 := NB119_134.out
            obtain ⟨hcz42_0, hcz42_1, hcz42_2, hcz42_3, hcz42_4, hcz42_5, hcz42_6, hcz42_7, hcz42_8, hcz42_9, hcz42_10, hcz42_11, hcz42_12, hcz42_13⟩ := cz14 BK134.out
            have hfz42_0 := blk_frozen BK134.out
            obtain ⟨hcz43_0, hcz43_1, hcz43_2, hcz43_3, hcz43_4, hcz43_5, hcz43_6, hcz43_7, hcz43_8, hcz43_9, hcz43_10, hcz43_11, hcz43_12, hcz43_13⟩ := cz14 BK119.out
            have hfz43_0 := blk_frozen BK119.out
            go_wp2_with (first | ((with_reducible refine gate_callee (f := 29) rfl ?_); refine goesL_ (some 40) rfl rfl Try.func29 (by kernel_rfl) rfl #[.agg #[.int .i64 t120, .int .i64 t121, .int .i64 t122, .int .i64 t123, .bool t124, .int .i64 t125, .int .i64 t126, .int .i64 t127, .int .i64 t128, .int .i64 t129, .int .i64 t130, .int .i64 t131, .int .i64 t132, .int .i64 t133]] rfl (by (try simp only [List.map_toArray, List.map_cons, List.map_nil]); first | done | rfl | (simp only [List.length_drop, List.length_take]; rfl)) ?_; (with_reducible refine (impl_TaskOk.calls t120 t121 t122 t123 t124 t125 t126 t127 t128 t129 t130 t131 t132 t133 true _ A24.out).mono ?_); rintro e w44 ⟨rfl, hb⟩; refine ⟨_, rfl, ?_⟩; have n0_ := aM (blk_below (g := gb119) (o := .cells (tk14 t102 t103 t104 t105 t106 t107 t108 t109 t110 t111 t112 t113 t114 t115) 24 (0, 0)) (by (with_reducible repeat (first | apply bkD | apply bkd | apply bkA)); exact BK119.out) hb); have n1_ := aM (blk_below (g := gb134) (o := .cells (tk14 t120 t121 t122 t123 t124 t125 t126 t127 t128 t129 t130 t131 t132 t133) 24 (0, 0)) (by (with_reducible repeat (first | apply bkD | apply bkd | apply bkA)); exact BK134.out) hb); have n2_ := aM (below_step (by repeat (first | (with_reducible first | exact HB.out | apply beA | apply beD | apply bed | refine beS ?_ GE119.out | refine beS ?_ GE134.out) | exact HB.out)) hb); clear BK119; clear BK134; clear HB; have BK119 := n0_; have BK134 := n1_; have HB := n2_; clear n0_ n1_ n2_; (try clear hb); (try clear hb2); (try clear hk); (try clear hi); obtain ⟨hcz45_0, hcz45_1, hcz45_2, hcz45_3, hcz45_4, hcz45_5, hcz45_6, hcz45_7, hcz45_8, hcz45_9, hcz45_10, hcz45_11, hcz45_12, hcz45_13⟩ := cz14 BK134.out; have hfz45_0 := blk_frozen BK134.out))
            all_goals go_ret
            all_goals exact ⟨by first | rfl | (simp <;> rfl) | (simp [*] <;> rfl), by repeat (first | (with_reducible first | exact HB.out | apply beA | apply beD | apply bed | refine beS ?_ GE119.out | refine beS ?_ GE134.out) | exact HB.out)⟩
          rw [if_neg c26] at H
          have c26b0 : (t122 == t116) = false := beq_eq_false_iff_ne.mpr c26
          have c26b1 : (t122 != t116) = true := bne_iff_ne.mpr c26
          obtain rfl := Option.some.inj H
          have hnb46 := NB134_119.out
          have hnc46 := NB119_134.out
          obtain ⟨hcz47_0, hcz47_1, hcz47_2, hcz47_3, hcz47_4, hcz47_5, hcz47_6, hcz47_7, hcz47_8, hcz47_9, hcz47_10, hcz47_11, hcz47_12, hcz47_13⟩ := cz14 BK134.out
          have hfz47_0 := blk_frozen BK134.out
          obtain ⟨hcz48_0, hcz48_1, hcz48_2, hcz48_3, hcz48_4, hcz48_5, hcz48_6, hcz48_7, hcz48_8, hcz48_9, hcz48_10, hcz48_11, hcz48_12, hcz48_13⟩ := cz14 BK119.out
          have hfz48_0 := blk_frozen BK119.out
          go_wp2_with (first | ((with_reducible refine gate_callee (f := 29) rfl ?_); refine goesL_ (some 40) rfl rfl Try.func29 (by kernel_rfl) rfl #[.agg #[.int .i64 t120, .int .i64 t121, .int .i64 t122, .int .i64 t123, .bool t124, .int .i64 t125, .int .i64 t126, .int .i64 t127, .int .i64 t128, .int .i64 t129, .int .i64 t130, .int .i64 t131, .int .i64 t132, .int .i64 t133]] rfl (by (try simp only [List.map_toArray, List.map_cons, List.map_nil]); first | done | rfl | (simp only [List.length_drop, List.length_take]; rfl)) ?_; (with_reducible refine (impl_TaskOk.calls t120 t121 t122 t123 t124 t125 t126 t127 t128 t129 t130 t131 t132 t133 true _ A24.out).mono ?_); rintro e w49 ⟨rfl, hb⟩; refine ⟨_, rfl, ?_⟩; have n0_ := aM (blk_below (g := gb119) (o := .cells (tk14 t102 t103 t104 t105 t106 t107 t108 t109 t110 t111 t112 t113 t114 t115) 24 (0, 0)) (by (with_reducible repeat (first | apply bkD | apply bkd | apply bkA)); exact BK119.out) hb); have n1_ := aM (blk_below (g := gb134) (o := .cells (tk14 t120 t121 t122 t123 t124 t125 t126 t127 t128 t129 t130 t131 t132 t133) 24 (0, 0)) (by (with_reducible repeat (first | apply bkD | apply bkd | apply bkA)); exact BK134.out) hb); have n2_ := aM (below_step (by repeat (first | (with_reducible first | exact HB.out | apply beA | apply beD | apply bed | refine beS ?_ GE119.out | refine beS ?_ GE134.out) | exact HB.out)) hb); clear BK119; clear BK134; clear HB; have BK119 := n0_; have BK134 := n1_; have HB := n2_; clear n0_ n1_ n2_; (try clear hb); (try clear hb2); (try clear hk); (try clear hi); obtain ⟨hcz50_0, hcz50_1, hcz50_2, hcz50_3, hcz50_4, hcz50_5, hcz50_6, hcz50_7, hcz50_8, hcz50_9, hcz50_10, hcz50_11, hcz50_12, hcz50_13⟩ := cz14 BK134.out; have hfz50_0 := blk_frozen BK134.out))
          all_goals go_ret
          all_goals exact ⟨by first | rfl | (simp <;> rfl) | (simp [*] <;> rfl), by repeat (first | (with_reducible first | exact HB.out | apply beA | apply beD | apply bed | refine beS ?_ GE119.out | refine beS ?_ GE134.out) | exact HB.out)⟩
        replace c25 := Bool.eq_false_iff.mpr c25
        subst c25
        have H1 : (some false) = some r := by rw [if_neg (show ¬ (false = true) by decide)] at H; exact H
        clear H
        have H := H1
        clear H1
        obtain rfl := Option.some.inj H
        have hnb51 := NB134_119.out
        have hnc51 := NB119_134.out
        obtain ⟨hcz52_0, hcz52_1, hcz52_2, hcz52_3, hcz52_4, hcz52_5, hcz52_6, hcz52_7, hcz52_8, hcz52_9, hcz52_10, hcz52_11, hcz52_12, hcz52_13⟩ := cz14 BK134.out
        have hfz52_0 := blk_frozen BK134.out
        obtain ⟨hcz53_0, hcz53_1, hcz53_2, hcz53_3, hcz53_4, hcz53_5, hcz53_6, hcz53_7, hcz53_8, hcz53_9, hcz53_10, hcz53_11, hcz53_12, hcz53_13⟩ := cz14 BK119.out
        have hfz53_0 := blk_frozen BK119.out
        go_wp2_with (first | ((with_reducible refine gate_callee (f := 29) rfl ?_); refine goesL_ (some 40) rfl rfl Try.func29 (by kernel_rfl) rfl #[.agg #[.int .i64 t120, .int .i64 t121, .int .i64 t122, .int .i64 t123, .bool t124, .int .i64 t125, .int .i64 t126, .int .i64 t127, .int .i64 t128, .int .i64 t129, .int .i64 t130, .int .i64 t131, .int .i64 t132, .int .i64 t133]] rfl (by (try simp only [List.map_toArray, List.map_cons, List.map_nil]); first | done | rfl | (simp only [List.length_drop, List.length_take]; rfl)) ?_; (with_reducible refine (impl_TaskOk.calls t120 t121 t122 t123 t124 t125 t126 t127 t128 t129 t130 t131 t132 t133 false _ A24.out).mono ?_); rintro e w54 ⟨rfl, hb⟩; refine ⟨_, rfl, ?_⟩; have n0_ := aM (blk_below (g := gb119) (o := .cells (tk14 t102 t103 t104 t105 t106 t107 t108 t109 t110 t111 t112 t113 t114 t115) 24 (0, 0)) (by (with_reducible repeat (first | apply bkD | apply bkd | apply bkA)); exact BK119.out) hb); have n1_ := aM (blk_below (g := gb134) (o := .cells (tk14 t120 t121 t122 t123 t124 t125 t126 t127 t128 t129 t130 t131 t132 t133) 24 (0, 0)) (by (with_reducible repeat (first | apply bkD | apply bkd | apply bkA)); exact BK134.out) hb); have n2_ := aM (below_step (by repeat (first | (with_reducible first | exact HB.out | apply beA | apply beD | apply bed | refine beS ?_ GE119.out | refine beS ?_ GE134.out) | exact HB.out)) hb); clear BK119; clear BK134; clear HB; have BK119 := n0_; have BK134 := n1_; have HB := n2_; clear n0_ n1_ n2_; (try clear hb); (try clear hb2); (try clear hk); (try clear hi)))
        all_goals go_ret
        all_goals exact ⟨by first | rfl | (simp <;> rfl) | (simp [*] <;> rfl), by repeat (first | (with_reducible first | exact HB.out | apply beA | apply beD | apply bed | refine beS ?_ GE119.out | refine beS ?_ GE134.out) | exact HB.out)⟩
      rw [if_neg c23] at H
      have c23b0 : decide ((wrap64 (t115 - t117)) < 0) = false := decide_eq_false c23
      clear c23
      replace H := Option.bind_eq_some_iff.mp H
      obtain ⟨t150, A550, H⟩ := H
      replace H : (if t150 = true then (if t122 = t116 then (if (wrap64 (t133 - t118)) = (wrap64 (t115 - t117)) then (if t132 = t114 then (some (t120 == t102)) else (some false)) else (some false)) else (some false)) else (some false)) = some r := H
      have A55 := Aside0.mk A550
      clear A550
      by_cases c56 : t150 = true
      · subst c56
        have H1 : (if t122 = t116 then (if (wrap64 (t133 - t118)) = (wrap64 (t115 - t117)) then (if t132 = t114 then (some (t120 == t102)) else (some false)) else (some false)) else (some false)) = some r := by rw [if_pos rfl] at H; exact H
        clear H
        have H := H1
        clear H1
        by_cases c57 : t122 = t116
        · rw [if_pos c57] at H
          have c57b0 : (t122 == t116) = true := beq_iff_eq.mpr c57
          have c57b1 : (t122 != t116) = false := bne_eq_false_iff_eq.mpr c57
          clear c57
          by_cases c58 : (wrap64 (t133 - t118)) = (wrap64 (t115 - t117))
          · rw [if_pos c58] at H
            have c58b0 : ((wrap64 (t133 - t118)) == (wrap64 (t115 - t117))) = true := beq_iff_eq.mpr c58
            have c58b1 : ((wrap64 (t133 - t118)) != (wrap64 (t115 - t117))) = false := bne_eq_false_iff_eq.mpr c58
            clear c58
            by_cases c59 : t132 = t114
            · rw [if_pos c59] at H
              have c59b0 : (t132 == t114) = true := beq_iff_eq.mpr c59
              have c59b1 : (t132 != t114) = false := bne_eq_false_iff_eq.mpr c59
              clear c59
              obtain rfl := Option.some.inj H
              have hnb60 := NB134_119.out
              have hnc60 := NB119_134.out
              obtain ⟨hcz61_0, hcz61_1, hcz61_2, hcz61_3, hcz61_4, hcz61_5, hcz61_6, hcz61_7, hcz61_8, hcz61_9, hcz61_10, hcz61_11, hcz61_12, hcz61_13⟩ := cz14 BK134.out
              have hfz61_0 := blk_frozen BK134.out
              obtain ⟨hcz62_0, hcz62_1, hcz62_2, hcz62_3, hcz62_4, hcz62_5, hcz62_6, hcz62_7, hcz62_8, hcz62_9, hcz62_10, hcz62_11, hcz62_12, hcz62_13⟩ := cz14 BK119.out
              have hfz62_0 := blk_frozen BK119.out
              go_wp2_with (first | ((with_reducible refine gate_callee (f := 29) rfl ?_); refine goesL_ (some 40) rfl rfl Try.func29 (by kernel_rfl) rfl #[.agg #[.int .i64 t120, .int .i64 t121, .int .i64 t122, .int .i64 t123, .bool t124, .int .i64 t125, .int .i64 t126, .int .i64 t127, .int .i64 t128, .int .i64 t129, .int .i64 t130, .int .i64 t131, .int .i64 t132, .int .i64 t133]] rfl (by (try simp only [List.map_toArray, List.map_cons, List.map_nil]); first | done | rfl | (simp only [List.length_drop, List.length_take]; rfl)) ?_; (with_reducible refine (impl_TaskOk.calls t120 t121 t122 t123 t124 t125 t126 t127 t128 t129 t130 t131 t132 t133 true _ A55.out).mono ?_); rintro e w63 ⟨rfl, hb⟩; refine ⟨_, rfl, ?_⟩; have n0_ := aM (blk_below (g := gb119) (o := .cells (tk14 t102 t103 t104 t105 t106 t107 t108 t109 t110 t111 t112 t113 t114 t115) 24 (0, 0)) (by (with_reducible repeat (first | apply bkD | apply bkd | apply bkA)); exact BK119.out) hb); have n1_ := aM (blk_below (g := gb134) (o := .cells (tk14 t120 t121 t122 t123 t124 t125 t126 t127 t128 t129 t130 t131 t132 t133) 24 (0, 0)) (by (with_reducible repeat (first | apply bkD | apply bkd | apply bkA)); exact BK134.out) hb); have n2_ := aM (below_step (by repeat (first | (with_reducible first | exact HB.out | apply beA | apply beD | apply bed | refine beS ?_ GE119.out | refine beS ?_ GE134.out) | exact HB.out)) hb); clear BK119; clear BK134; clear HB; have BK119 := n0_; have BK134 := n1_; have HB := n2_; clear n0_ n1_ n2_; (try clear hb); (try clear hb2); (try clear hk); (try clear hi); obtain ⟨hcz64_0, hcz64_1, hcz64_2, hcz64_3, hcz64_4, hcz64_5, hcz64_6, hcz64_7, hcz64_8, hcz64_9, hcz64_10, hcz64_11, hcz64_12, hcz64_13⟩ := cz14 BK134.out; have hfz64_0 := blk_frozen BK134.out; obtain ⟨hcz65_0, hcz65_1, hcz65_2, hcz65_3, hcz65_4, hcz65_5, hcz65_6, hcz65_7, hcz65_8, hcz65_9, hcz65_10, hcz65_11, hcz65_12, hcz65_13⟩ := cz14 BK119.out; have hfz65_0 := blk_frozen BK119.out))
              all_goals go_ret
              all_goals exact ⟨by first | rfl | (simp <;> rfl) | (simp [*] <;> rfl), by repeat (first | (with_reducible first | exact HB.out | apply beA | apply beD | apply bed | refine beS ?_ GE119.out | refine beS ?_ GE134.out) | exact HB.out)⟩
            rw [if_neg c59] at H
            have c59b0 : (t132 == t114) = false := beq_eq_false_iff_ne.mpr c59
            have c59b1 : (t132 != t114) = true := bne_iff_ne.mpr c59
            obtain rfl := Option.some.inj H
            have hnb66 := NB134_119.out
            have hnc66 := NB119_134.out
            obtain ⟨hcz67_0, hcz67_1, hcz67_2, hcz67_3, hcz67_4, hcz67_5, hcz67_6, hcz67_7, hcz67_8, hcz67_9, hcz67_10, hcz67_11, hcz67_12, hcz67_13⟩ := cz14 BK134.out
            have hfz67_0 := blk_frozen BK134.out
            obtain ⟨hcz68_0, hcz68_1, hcz68_2, hcz68_3, hcz68_4, hcz68_5, hcz68_6, hcz68_7, hcz68_8, hcz68_9, hcz68_10, hcz68_11, hcz68_12, hcz68_13⟩ := cz14 BK119.out
            have hfz68_0 := blk_frozen BK119.out
            go_wp2_with (first | ((with_reducible refine gate_callee (f := 29) rfl ?_); refine goesL_ (some 40) rfl rfl Try.func29 (by kernel_rfl) rfl #[.agg #[.int .i64 t120, .int .i64 t121, .int .i64 t122, .int .i64 t123, .bool t124, .int .i64 t125, .int .i64 t126, .int .i64 t127, .int .i64 t128, .int .i64 t129, .int .i64 t130, .int .i64 t131, .int .i64 t132, .int .i64 t133]] rfl (by (try simp only [List.map_toArray, List.map_cons, List.map_nil]); first | done | rfl | (simp only [List.length_drop, List.length_take]; rfl)) ?_; (with_reducible refine (impl_TaskOk.calls t120 t121 t122 t123 t124 t125 t126 t127 t128 t129 t130 t131 t132 t133 true _ A55.out).mono ?_); rintro e w69 ⟨rfl, hb⟩; refine ⟨_, rfl, ?_⟩; have n0_ := aM (blk_below (g := gb119) (o := .cells (tk14 t102 t103 t104 t105 t106 t107 t108 t109 t110 t111 t112 t113 t114 t115) 24 (0, 0)) (by (with_reducible repeat (first | apply bkD | apply bkd | apply bkA)); exact BK119.out) hb); have n1_ := aM (blk_below (g := gb134) (o := .cells (tk14 t120 t121 t122 t123 t124 t125 t126 t127 t128 t129 t130 t131 t132 t133) 24 (0, 0)) (by (with_reducible repeat (first | apply bkD | apply bkd | apply bkA)); exact BK134.out) hb); have n2_ := aM (below_step (by repeat (first | (with_reducible first | exact HB.out | apply beA | apply beD | apply bed | refine beS ?_ GE119.out | refine beS ?_ GE134.out) | exact HB.out)) hb); clear BK119; clear BK134; clear HB; have BK119 := n0_; have BK134 := n1_; have HB := n2_; clear n0_ n1_ n2_; (try clear hb); (try clear hb2); (try clear hk); (try clear hi); obtain ⟨hcz70_0, hcz70_1, hcz70_2, hcz70_3, hcz70_4, hcz70_5, hcz70_6, hcz70_7, hcz70_8, hcz70_9, hcz70_10, hcz70_11, hcz70_12, hcz70_13⟩ := cz14 BK134.out; have hfz70_0 := blk_frozen BK134.out; obtain ⟨hcz71_0, hcz71_1, hcz71_2, hcz71_3, hcz71_4, hcz71_5, hcz71_6, hcz71_7, hcz71_8, hcz71_9, hcz71_10, hcz71_11, hcz71_12, hcz71_13⟩ := cz14 BK119.out; have hfz71_0 := blk_frozen BK119.out))
            all_goals go_ret
            all_goals exact ⟨by first | rfl | (simp <;> rfl) | (simp [*] <;> rfl), by repeat (first | (with_reducible first | exact HB.out | apply beA | apply beD | apply bed | refine beS ?_ GE119.out | refine beS ?_ GE134.out) | exact HB.out)⟩
          rw [if_neg c58] at H
          have c58b0 : ((wrap64 (t133 - t118)) == (wrap64 (t115 - t117))) = false := beq_eq_false_iff_ne.mpr c58
          have c58b1 : ((wrap64 (t133 - t118)) != (wrap64 (t115 - t117))) = true := bne_iff_ne.mpr c58
          obtain rfl := Option.some.inj H
          have hnb72 := NB134_119.out
          have hnc72 := NB119_134.out
          obtain ⟨hcz73_0, hcz73_1, hcz73_2, hcz73_3, hcz73_4, hcz73_5, hcz73_6, hcz73_7, hcz73_8, hcz73_9, hcz73_10, hcz73_11, hcz73_12, hcz73_13⟩ := cz14 BK134.out
          have hfz73_0 := blk_frozen BK134.out
          obtain ⟨hcz74_0, hcz74_1, hcz74_2, hcz74_3, hcz74_4, hcz74_5, hcz74_6, hcz74_7, hcz74_8, hcz74_9, hcz74_10, hcz74_11, hcz74_12, hcz74_13⟩ := cz14 BK119.out
          have hfz74_0 := blk_frozen BK119.out
          go_wp2_with (first | ((with_reducible refine gate_callee (f := 29) rfl ?_); refine goesL_ (some 40) rfl rfl Try.func29 (by kernel_rfl) rfl #[.agg #[.int .i64 t120, .int .i64 t121, .int .i64 t122, .int .i64 t123, .bool t124, .int .i64 t125, .int .i64 t126, .int .i64 t127, .int .i64 t128, .int .i64 t129, .int .i64 t130, .int .i64 t131, .int .i64 t132, .int .i64 t133]] rfl (by (try simp only [List.map_toArray, List.map_cons, List.map_nil]); first | done | rfl | (simp only [List.length_drop, List.length_take]; rfl)) ?_; (with_reducible refine (impl_TaskOk.calls t120 t121 t122 t123 t124 t125 t126 t127 t128 t129 t130 t131 t132 t133 true _ A55.out).mono ?_); rintro e w75 ⟨rfl, hb⟩; refine ⟨_, rfl, ?_⟩; have n0_ := aM (blk_below (g := gb119) (o := .cells (tk14 t102 t103 t104 t105 t106 t107 t108 t109 t110 t111 t112 t113 t114 t115) 24 (0, 0)) (by (with_reducible repeat (first | apply bkD | apply bkd | apply bkA)); exact BK119.out) hb); have n1_ := aM (blk_below (g := gb134) (o := .cells (tk14 t120 t121 t122 t123 t124 t125 t126 t127 t128 t129 t130 t131 t132 t133) 24 (0, 0)) (by (with_reducible repeat (first | apply bkD | apply bkd | apply bkA)); exact BK134.out) hb); have n2_ := aM (below_step (by repeat (first | (with_reducible first | exact HB.out | apply beA | apply beD | apply bed | refine beS ?_ GE119.out | refine beS ?_ GE134.out) | exact HB.out)) hb); clear BK119; clear BK134; clear HB; have BK119 := n0_; have BK134 := n1_; have HB := n2_; clear n0_ n1_ n2_; (try clear hb); (try clear hb2); (try clear hk); (try clear hi); obtain ⟨hcz76_0, hcz76_1, hcz76_2, hcz76_3, hcz76_4, hcz76_5, hcz76_6, hcz76_7, hcz76_8, hcz76_9, hcz76_10, hcz76_11, hcz76_12, hcz76_13⟩ := cz14 BK134.out; have hfz76_0 := blk_frozen BK134.out))
          all_goals go_ret
          all_goals exact ⟨by first | rfl | (simp <;> rfl) | (simp [*] <;> rfl), by repeat (first | (with_reducible first | exact HB.out | apply beA | apply beD | apply bed | refine beS ?_ GE119.out | refine beS ?_ GE134.out) | exact HB.out)⟩
        rw [if_neg c57] at H
        have c57b0 : (t122 == t116) = false := beq_eq_false_iff_ne.mpr c57
        have c57b1 : (t122 != t116) = true := bne_iff_ne.mpr c57
        obtain rfl := Option.some.inj H
        have hnb77 := NB134_119.out
        have hnc77 := NB119_134.out
        obtain ⟨hcz78_0, hcz78_1, hcz78_2, hcz78_3, hcz78_4, hcz78_5, hcz78_6, hcz78_7, hcz78_8, hcz78_9, hcz78_10, hcz78_11, hcz78_12, hcz78_13⟩ := cz14 BK134.out
        have hfz78_0 := blk_frozen BK134.out
        obtain ⟨hcz79_0, hcz79_1, hcz79_2, hcz79_3, hcz79_4, hcz79_5, hcz79_6, hcz79_7, hcz79_8, hcz79_9, hcz79_10, hcz79_11, hcz79_12, hcz79_13⟩ := cz14 BK119.out
        have hfz79_0 := blk_frozen BK119.out
        go_wp2_with (first | ((with_reducible refine gate_callee (f := 29) rfl ?_); refine goesL_ (some 40) rfl rfl Try.func29 (by kernel_rfl) rfl #[.agg #[.int .i64 t120, .int .i64 t121, .int .i64 t122, .int .i64 t123, .bool t124, .int .i64 t125, .int .i64 t126, .int .i64 t127, .int .i64 t128, .int .i64 t129, .int .i64 t130, .int .i64 t131, .int .i64 t132, .int .i64 t133]] rfl (by (try simp only [List.map_toArray, List.map_cons, List.map_nil]); first | done | rfl | (simp only [List.length_drop, List.length_take]; rfl)) ?_; (with_reducible refine (impl_TaskOk.calls t120 t121 t122 t123 t124 t125 t126 t127 t128 t129 t130 t131 t132 t133 true _ A55.out).mono ?_); rintro e w80 ⟨rfl, hb⟩; refine ⟨_, rfl, ?_⟩; have n0_ := aM (blk_below (g := gb119) (o := .cells (tk14 t102 t103 t104 t105 t106 t107 t108 t109 t110 t111 t112 t113 t114 t115) 24 (0, 0)) (by (with_reducible repeat (first | apply bkD | apply bkd | apply bkA)); exact BK119.out) hb); have n1_ := aM (blk_below (g := gb134) (o := .cells (tk14 t120 t121 t122 t123 t124 t125 t126 t127 t128 t129 t130 t131 t132 t133) 24 (0, 0)) (by (with_reducible repeat (first | apply bkD | apply bkd | apply bkA)); exact BK134.out) hb); have n2_ := aM (below_step (by repeat (first | (with_reducible first | exact HB.out | apply beA | apply beD | apply bed | refine beS ?_ GE119.out | refine beS ?_ GE134.out) | exact HB.out)) hb); clear BK119; clear BK134; clear HB; have BK119 := n0_; have BK134 := n1_; have HB := n2_; clear n0_ n1_ n2_; (try clear hb); (try clear hb2); (try clear hk); (try clear hi); obtain ⟨hcz81_0, hcz81_1, hcz81_2, hcz81_3, hcz81_4, hcz81_5, hcz81_6, hcz81_7, hcz81_8, hcz81_9, hcz81_10, hcz81_11, hcz81_12, hcz81_13⟩ := cz14 BK134.out; have hfz81_0 := blk_frozen BK134.out))
        all_goals go_ret
        all_goals exact ⟨by first | rfl | (simp <;> rfl) | (simp [*] <;> rfl), by repeat (first | (with_reducible first | exact HB.out | apply beA | apply beD | apply bed | refine beS ?_ GE119.out | refine beS ?_ GE134.out) | exact HB.out)⟩
      replace c56 := Bool.eq_false_iff.mpr c56
      subst c56
      have H1 : (some false) = some r := by rw [if_neg (show ¬ (false = true) by decide)] at H; exact H
      clear H
      have H := H1
      clear H1
      obtain rfl := Option.some.inj H
      have hnb82 := NB134_119.out
      have hnc82 := NB119_134.out
      obtain ⟨hcz83_0, hcz83_1, hcz83_2, hcz83_3, hcz83_4, hcz83_5, hcz83_6, hcz83_7, hcz83_8, hcz83_9, hcz83_10, hcz83_11, hcz83_12, hcz83_13⟩ := cz14 BK134.out
      have hfz83_0 := blk_frozen BK134.out
      obtain ⟨hcz84_0, hcz84_1, hcz84_2, hcz84_3, hcz84_4, hcz84_5, hcz84_6, hcz84_7, hcz84_8, hcz84_9, hcz84_10, hcz84_11, hcz84_12, hcz84_13⟩ := cz14 BK119.out
      have hfz84_0 := blk_frozen BK119.out
      go_wp2_with (first | ((with_reducible refine gate_callee (f := 29) rfl ?_); refine goesL_ (some 40) rfl rfl Try.func29 (by kernel_rfl) rfl #[.agg #[.int .i64 t120, .int .i64 t121, .int .i64 t122, .int .i64 t123, .bool t124, .int .i64 t125, .int .i64 t126, .int .i64 t127, .int .i64 t128, .int .i64 t129, .int .i64 t130, .int .i64 t131, .int .i64 t132, .int .i64 t133]] rfl (by (try simp only [List.map_toArray, List.map_cons, List.map_nil]); first | done | rfl | (simp only [List.length_drop, List.length_take]; rfl)) ?_; (with_reducible refine (impl_TaskOk.calls t120 t121 t122 t123 t124 t125 t126 t127 t128 t129 t130 t131 t132 t133 false _ A55.out).mono ?_); rintro e w85 ⟨rfl, hb⟩; refine ⟨_, rfl, ?_⟩; have n0_ := aM (blk_below (g := gb119) (o := .cells (tk14 t102 t103 t104 t105 t106 t107 t108 t109 t110 t111 t112 t113 t114 t115) 24 (0, 0)) (by (with_reducible repeat (first | apply bkD | apply bkd | apply bkA)); exact BK119.out) hb); have n1_ := aM (blk_below (g := gb134) (o := .cells (tk14 t120 t121 t122 t123 t124 t125 t126 t127 t128 t129 t130 t131 t132 t133) 24 (0, 0)) (by (with_reducible repeat (first | apply bkD | apply bkd | apply bkA)); exact BK134.out) hb); have n2_ := aM (below_step (by repeat (first | (with_reducible first | exact HB.out | apply beA | apply beD | apply bed | refine beS ?_ GE119.out | refine beS ?_ GE134.out) | exact HB.out)) hb); clear BK119; clear BK134; clear HB; have BK119 := n0_; have BK134 := n1_; have HB := n2_; clear n0_ n1_ n2_; (try clear hb); (try clear hb2); (try clear hk); (try clear hi)))
      all_goals go_ret
      all_goals exact ⟨by first | rfl | (simp <;> rfl) | (simp [*] <;> rfl), by repeat (first | (with_reducible first | exact HB.out | apply beA | apply beD | apply bed | refine beS ?_ GE119.out | refine beS ?_ GE134.out) | exact HB.out)⟩

/-- THE ONE PURE STATEMENT of laws_FnMoved: yours. -/
def laws_FnMoved.Pure : Prop := ∀ (l0 : List Int), l0.length ≤ maxLen → l0.length * 1 ≤ 140737488351232 → (∀ x ∈ l0, (Lit.int .u8 x).wf = true) → ∃ k, laws_FnMoved.f k l0 = some true
theorem laws_FnMoved.walk (P : laws_FnMoved.Pure) (a0 : Option Addr) (len0 cap0 : Nat) (z0 : List Int) (w : World) (w0 : (a0 = none ∧ len0 = 0 ∧ cap0 = 0 ∧ z0 = []) ∨ ∃ x, a0 = some x ∧ len0 ≤ cap0 ∧ cap0 ≤ maxLen ∧ z0.length = cap0 ∧ (∀ i, i < z0.length → w.cell? (x.add i) = some (.int .u8 (z0.getD i 0))) ∧ ∀ n ∈ z0, (Lit.int .u8 n).wf = true) (y0 : len0 * 1 ≤ 140737488351232) :
    Calls Try.prog 13 #[.slice a0 len0 cap0] w fun e w' => e = .returned (.bool true) ∧ Below w.heap.size w w' := by
  obtain ⟨l0, rfl, hr0, hm0, hw0, hc0⟩ := ReadsInt.ofRowC w0
  obtain ⟨k, h⟩ := P l0 hm0 y0 hw0
  refine (laws_FnMoved.calls k _ _ l0 true w (Kd.C_of_reads (d := (0 : Int)) (h1 := fun _ => rfl) hr0) hc0 h).mono ?_
  rintro e w' ⟨rfl, hd⟩
  exact ⟨rfl, hd⟩

end Go.Proofs.Ytnokdjkkgcpbdab.Print
