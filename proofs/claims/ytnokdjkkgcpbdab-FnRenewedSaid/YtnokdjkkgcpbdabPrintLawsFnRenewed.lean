/- Go functions as plain Lean functions, and that the Go code answers just as these, wherever they answer. Conditions: those of each theorem. Written by a program of this session (wip/patch.py). -/
import Derived.Test.YtnokdjkkgcpbdabPrint0
import Derived.Test.YtnokdjkkgcpbdabPrintEq
import Derived.Test.YtnokdjkkgcpbdabPrintImplDueRenew
import Derived.Test.YtnokdjkkgcpbdabPrintImplTaskOk0
import Derived.Test.YtnokdjkkgcpbdabPrintLawsBig
import Derived.Test.YtnokdjkkgcpbdabPrintSpecDrawDueRenew
import Derived.Test.YtnokdjkkgcpbdabPrintSpecDueRenew
import Derived.Test.YtnokdjkkgcpbdabPrintSpecTaskOk0
namespace Go.Proofs.Ytnokdjkkgcpbdab.Print
open Go.RowKit Go.Proofs.Ytnokdjkkgcpbdab.Base Go.Proofs.YtnokdjkkgcpbdabW.PrintWords Go.Proofs.YtnokdjkkgcpbdabW.PrintLast Go.Proofs.YtnokdjkkgcpbdabW.PrintMore
attribute [local go_sem] max2_int min2_int max_two min_two max_three min_three max_four min_four   -- for this text's walks alone
set_option linter.unusedVariables false
set_option linter.unusedSimpArgs false

attribute [local go_sem high] eqA24
/-! ### laws_FnRenewed: function 10 -/
def laws_FnRenewed.j0 : Nat → Int → Bool → Int → Int → Int → Int → Bool → Int → Int → Int → Int → Int → Int → Int → Int → Int → Int → Int → Int → Int → Bool → Int → Int → Int → Int → Int → Int → Int → Int → Int → Option (Bool)
  | 0, _, _, _, _, _, _, _, _, _, _, _, _, _, _, _, _, _, _, _, _, _, _, _, _, _, _, _, _, _, _ => none
  | k + 1, x4, x20, x118000, x118001, x118002, x118003, x118004, x118005, x118006, x118007, x118008, x118009, x118010, x118011, x118012, x118013, x133000, x133001, x133002, x133003, x133004, x133005, x133006, x133007, x133008, x133009, x133010, x133011, x133012, x133013 => if x20 = true then (some false) else ((spec_TaskOk.f x118000 x118001 x118002 x118003 x118004 x118005 x118006 x118007 x118008 x118009 x118010 x118011 x118012 x118013).bind fun t147 => (if t147 = true then (if x118001 = 1 then (if x4 < 0 then (some (x133000 == x118000 && (x133001 == x118001 && (x133002 == x118002 && (x133003 == x118003 && (x133004 == x118004 && (x133005 == x118005 && (x133006 == x118006 && (x133007 == x118007 && (x133008 == x118008 && (x133009 == x118009 && (x133010 == x118010 && (x133011 == x118011 && (x133012 == x118012 && (x133013 == x118013))))))))))))))) else (if x4 > 100000 then (some (x133000 == x118000 && (x133001 == x118001 && (x133002 == x118002 && (x133003 == x118003 && (x133004 == x118004 && (x133005 == x118005 && (x133006 == x118006 && (x133007 == x118007 && (x133008 == x118008 && (x133009 == x118009 && (x133010 == x118010 && (x133011 == x118011 && (x133012 == x118012 && (x133013 == x118013))))))))))))))) else (if x118008 > x4 then (some (x133000 == x118000 && (x133001 == x118001 && (x133002 == x118002 && (x133003 == x118003 && (x133004 == x118004 && (x133005 == x118005 && (x133006 == x118006 && (x133007 == x118007 && (x133008 == x118008 && (x133009 == x118009 && (x133010 == x118010 && (x133011 == x118011 && (x133012 == x118012 && (x133013 == x118013))))))))))))))) else (if x133007 = x118005 then (if x133008 = (wrap64 (x118008 + x118006)) then ((impl_TaskOk.f x133000 x133001 x133002 x133003 x133004 x133005 x133006 x133007 x133008 x133009 x133010 x133011 x133012 x133013).bind fun t148 => (some t148)) else (some false)) else (some false))))) else (some (x133000 == x118000 && (x133001 == x118001 && (x133002 == x118002 && (x133003 == x118003 && (x133004 == x118004 && (x133005 == x118005 && (x133006 == x118006 && (x133007 == x118007 && (x133008 == x118008 && (x133009 == x118009 && (x133010 == x118010 && (x133011 == x118011 && (x133012 == x118012 && (x133013 == x118013)))))))))))))))) else (some (x133000 == x118000 && (x133001 == x118001 && (x133002 == x118002 && (x133003 == x118003 && (x133004 == x118004 && (x133005 == x118005 && (x133006 == x118006 && (x133007 == x118007 && (x133008 == x118008 && (x133009 == x118009 && (x133010 == x118010 && (x133011 == x118011 && (x133012 == x118012 && (x133013 == x118013)))))))))))))))))
def laws_FnRenewed.f (k : Nat) (l0 : List Int) : Option (Bool) := (laws_big.f l0).bind fun t101 => (if t101 = true then (some true) else ((spec_DrawDueRenew.f k l0).bind fun bt102 => ((impl_DueRenew.f bt102.1 bt102.2.1 bt102.2.2.1 bt102.2.2.2.1 bt102.2.2.2.2.1 bt102.2.2.2.2.2.1 bt102.2.2.2.2.2.2.1 bt102.2.2.2.2.2.2.2.1 bt102.2.2.2.2.2.2.2.2.1 bt102.2.2.2.2.2.2.2.2.2.1 bt102.2.2.2.2.2.2.2.2.2.2.1 bt102.2.2.2.2.2.2.2.2.2.2.2.1 bt102.2.2.2.2.2.2.2.2.2.2.2.2.1 bt102.2.2.2.2.2.2.2.2.2.2.2.2.2.1 bt102.2.2.2.2.2.2.2.2.2.2.2.2.2.2).bind fun bt118 => ((spec_DueRenew.f bt102.1 bt102.2.1 bt102.2.2.1 bt102.2.2.2.1 bt102.2.2.2.2.1 bt102.2.2.2.2.2.1 bt102.2.2.2.2.2.2.1 bt102.2.2.2.2.2.2.2.1 bt102.2.2.2.2.2.2.2.2.1 bt102.2.2.2.2.2.2.2.2.2.1 bt102.2.2.2.2.2.2.2.2.2.2.1 bt102.2.2.2.2.2.2.2.2.2.2.2.1 bt102.2.2.2.2.2.2.2.2.2.2.2.2.1 bt102.2.2.2.2.2.2.2.2.2.2.2.2.2.1 bt102.2.2.2.2.2.2.2.2.2.2.2.2.2.2).bind fun bt133 => (laws_FnRenewed.j0 k bt102.2.2.2.2.2.2.2.2.2.2.2.2.2.2 (!(bt118.1 == bt133.1) || (!(bt118.2.1 == bt133.2.1) || (!(bt118.2.2.1 == bt133.2.2.1) || (!(bt118.2.2.2.1 == bt133.2.2.2.1) || (!(bt118.2.2.2.2.1 == bt133.2.2.2.2.1) || (!(bt118.2.2.2.2.2.1 == bt133.2.2.2.2.2.1) || (!(bt118.2.2.2.2.2.2.1 == bt133.2.2.2.2.2.2.1) || (!(bt118.2.2.2.2.2.2.2.1 == bt133.2.2.2.2.2.2.2.1) || (!(bt118.2.2.2.2.2.2.2.2.1 == bt133.2.2.2.2.2.2.2.2.1) || (!(bt118.2.2.2.2.2.2.2.2.2.1 == bt133.2.2.2.2.2.2.2.2.2.1) || (!(bt118.2.2.2.2.2.2.2.2.2.2.1 == bt133.2.2.2.2.2.2.2.2.2.2.1) || (!(bt118.2.2.2.2.2.2.2.2.2.2.2.1 == bt133.2.2.2.2.2.2.2.2.2.2.2.1) || (!(bt118.2.2.2.2.2.2.2.2.2.2.2.2.1 == bt133.2.2.2.2.2.2.2.2.2.2.2.2.1) || (!(bt118.2.2.2.2.2.2.2.2.2.2.2.2.2 == bt133.2.2.2.2.2.2.2.2.2.2.2.2.2))))))))))))))) bt102.1 bt102.2.1 bt102.2.2.1 bt102.2.2.2.1 bt102.2.2.2.2.1 bt102.2.2.2.2.2.1 bt102.2.2.2.2.2.2.1 bt102.2.2.2.2.2.2.2.1 bt102.2.2.2.2.2.2.2.2.1 bt102.2.2.2.2.2.2.2.2.2.1 bt102.2.2.2.2.2.2.2.2.2.2.1 bt102.2.2.2.2.2.2.2.2.2.2.2.1 bt102.2.2.2.2.2.2.2.2.2.2.2.2.1 bt102.2.2.2.2.2.2.2.2.2.2.2.2.2.1 bt118.1 bt118.2.1 bt118.2.2.1 bt118.2.2.2.1 bt118.2.2.2.2.1 bt118.2.2.2.2.2.1 bt118.2.2.2.2.2.2.1 bt118.2.2.2.2.2.2.2.1 bt118.2.2.2.2.2.2.2.2.1 bt118.2.2.2.2.2.2.2.2.2.1 bt118.2.2.2.2.2.2.2.2.2.2.1 bt118.2.2.2.2.2.2.2.2.2.2.2.1 bt118.2.2.2.2.2.2.2.2.2.2.2.2.1 bt118.2.2.2.2.2.2.2.2.2.2.2.2.2)))))
theorem laws_FnRenewed.mono_l : ∀ k, (∀ y0 y1 y2 y3 y4 y5 y6 y7 y8 y9 y10 y11 y12 y13 y14 y15 y16 y17 y18 y19 y20 y21 y22 y23 y24 y25 y26 y27 y28 y29, LeO (laws_FnRenewed.j0 k y0 y1 y2 y3 y4 y5 y6 y7 y8 y9 y10 y11 y12 y13 y14 y15 y16 y17 y18 y19 y20 y21 y22 y23 y24 y25 y26 y27 y28 y29) (laws_FnRenewed.j0 (k + 1) y0 y1 y2 y3 y4 y5 y6 y7 y8 y9 y10 y11 y12 y13 y14 y15 y16 y17 y18 y19 y20 y21 y22 y23 y24 y25 y26 y27 y28 y29))
  | 0 => fun _ _ _ _ _ _ _ _ _ _ _ _ _ _ _ _ _ _ _ _ _ _ _ _ _ _ _ _ _ _ r h => by simp [laws_FnRenewed.j0] at h
  | k + 1 => by
    have ih0 := laws_FnRenewed.mono_l k
    intro y0 y1 y2 y3 y4 y5 y6 y7 y8 y9 y10 y11 y12 y13 y14 y15 y16 y17 y18 y19 y20 y21 y22 y23 y24 y25 y26 y27 y28 y29
    unfold laws_FnRenewed.j0
    repeat' first
    | (with_reducible exact ih0 _ _ _ _ _ _ _ _ _ _ _ _ _ _ _ _ _ _ _ _ _ _ _ _ _ _ _ _ _ _)
    | (with_reducible exact spec_DrawDueRenew.mono _ _)
    | (with_reducible exact LeO.refl _)
    | (with_reducible exact LeO.none _)
    | (with_reducible refine LeO.ite ?_ ?_)
    | (with_reducible refine LeO.bind ?_ (fun _ => ?_))
    | exact ih0 _ _ _ _ _ _ _ _ _ _ _ _ _ _ _ _ _ _ _ _ _ _ _ _ _ _ _ _ _ _
    | exact spec_DrawDueRenew.mono _ _
    | exact LeO.none _
    | refine LeO.ite ?_ ?_
    | refine LeO.bind ?_ (fun _ => ?_)
theorem laws_FnRenewed.mono : ∀ a0 k, LeO (laws_FnRenewed.f k a0) (laws_FnRenewed.f (k + 1) a0) := by
  intro a0 k
  have ih0 := laws_FnRenewed.mono_l k
  unfold laws_FnRenewed.f
  repeat' first
      | (with_reducible exact ih0 _ _ _ _ _ _ _ _ _ _ _ _ _ _ _ _ _ _ _ _ _ _ _ _ _ _ _ _ _ _)
      | (with_reducible exact spec_DrawDueRenew.mono _ _)
      | (with_reducible exact LeO.refl _)
      | (with_reducible exact LeO.none _)
      | (with_reducible refine LeO.ite ?_ ?_)
      | (with_reducible refine LeO.bind ?_ (fun _ => ?_))
      | exact ih0 _ _ _ _ _ _ _ _ _ _ _ _ _ _ _ _ _ _ _ _ _ _ _ _ _ _ _ _ _ _
      | exact spec_DrawDueRenew.mono _ _
      | exact LeO.none _
      | refine LeO.ite ?_ ?_
      | refine LeO.bind ?_ (fun _ => ?_)
set_option maxHeartbeats 8000000 in
set_option maxRecDepth 100000 in
theorem laws_FnRenewed.calls (k : Nat) (A0 : Option Addr) (c0 : Nat) (l0 : List Int) (r : Bool) (w : World) (hr0 : Kd.C (Kd.int .u8) w A0 l0.length l0) (hc0 : l0.length ≤ c0) (h : laws_FnRenewed.f k l0 = some r) :
    Calls Try.prog 10 #[.slice A0 l0.length c0] w fun e w' => e = .returned (.bool r) ∧ Below w.heap.size w w' := by
  have hu24 := Try.underlying24
  have HR0 := Aside0.mk hr0
  have HC0 := Aside0.mk hc0
  clear hr0 hc0
  have HB := aM (Below.refl w.heap.size w)
  have H : ((laws_big.f l0).bind fun t101 => (if t101 = true then (some true) else ((spec_DrawDueRenew.f k l0).bind fun bt102 => ((impl_DueRenew.f bt102.1 bt102.2.1 bt102.2.2.1 bt102.2.2.2.1 bt102.2.2.2.2.1 bt102.2.2.2.2.2.1 bt102.2.2.2.2.2.2.1 bt102.2.2.2.2.2.2.2.1 bt102.2.2.2.2.2.2.2.2.1 bt102.2.2.2.2.2.2.2.2.2.1 bt102.2.2.2.2.2.2.2.2.2.2.1 bt102.2.2.2.2.2.2.2.2.2.2.2.1 bt102.2.2.2.2.2.2.2.2.2.2.2.2.1 bt102.2.2.2.2.2.2.2.2.2.2.2.2.2.1 bt102.2.2.2.2.2.2.2.2.2.2.2.2.2.2).bind fun bt118 => ((spec_DueRenew.f bt102.1 bt102.2.1 bt102.2.2.1 bt102.2.2.2.1 bt102.2.2.2.2.1 bt102.2.2.2.2.2.1 bt102.2.2.2.2.2.2.1 bt102.2.2.2.2.2.2.2.1 bt102.2.2.2.2.2.2.2.2.1 bt102.2.2.2.2.2.2.2.2.2.1 bt102.2.2.2.2.2.2.2.2.2.2.1 bt102.2.2.2.2.2.2.2.2.2.2.2.1 bt102.2.2.2.2.2.2.2.2.2.2.2.2.1 bt102.2.2.2.2.2.2.2.2.2.2.2.2.2.1 bt102.2.2.2.2.2.2.2.2.2.2.2.2.2.2).bind fun bt133 => (laws_FnRenewed.j0 k bt102.2.2.2.2.2.2.2.2.2.2.2.2.2.2 (!(bt118.1 == bt133.1) || (!(bt118.2.1 == bt133.2.1) || (!(bt118.2.2.1 == bt133.2.2.1) || (!(bt118.2.2.2.1 == bt133.2.2.2.1) || (!(bt118.2.2.2.2.1 == bt133.2.2.2.2.1) || (!(bt118.2.2.2.2.2.1 == bt133.2.2.2.2.2.1) || (!(bt118.2.2.2.2.2.2.1 == bt133.2.2.2.2.2.2.1) || (!(bt118.2.2.2.2.2.2.2.1 == bt133.2.2.2.2.2.2.2.1) || (!(bt118.2.2.2.2.2.2.2.2.1 == bt133.2.2.2.2.2.2.2.2.1) || (!(bt118.2.2.2.2.2.2.2.2.2.1 == bt133.2.2.2.2.2.2.2.2.2.1) || (!(bt118.2.2.2.2.2.2.2.2.2.2.1 == bt133.2.2.2.2.2.2.2.2.2.2.1) || (!(bt118.2.2.2.2.2.2.2.2.2.2.2.1 == bt133.2.2.2.2.2.2.2.2.2.2.2.1) || (!(bt118.2.2.2.2.2.2.2.2.2.2.2.2.1 == bt133.2.2.2.2.2.2.2.2.2.2.2.2.1) || (!(bt118.2.2.2.2.2.2.2.2.2.2.2.2.2 == bt133.2.2.2.2.2.2.2.2.2.2.2.2.2))))))))))))))) bt102.1 bt102.2.1 bt102.2.2.1 bt102.2.2.2.1 bt102.2.2.2.2.1 bt102.2.2.2.2.2.1 bt102.2.2.2.2.2.2.1 bt102.2.2.2.2.2.2.2.1 bt102.2.2.2.2.2.2.2.2.1 bt102.2.2.2.2.2.2.2.2.2.1 bt102.2.2.2.2.2.2.2.2.2.2.1 bt102.2.2.2.2.2.2.2.2.2.2.2.1 bt102.2.2.2.2.2.2.2.2.2.2.2.2.1 bt102.2.2.2.2.2.2.2.2.2.2.2.2.2.1 bt118.1 bt118.2.1 bt118.2.2.1 bt118.2.2.2.1 bt118.2.2.2.2.1 bt118.2.2.2.2.2.1 bt118.2.2.2.2.2.2.1 bt118.2.2.2.2.2.2.2.1 bt118.2.2.2.2.2.2.2.2.1 bt118.2.2.2.2.2.2.2.2.2.1 bt118.2.2.2.2.2.2.2.2.2.2.1 bt118.2.2.2.2.2.2.2.2.2.2.2.1 bt118.2.2.2.2.2.2.2.2.2.2.2.2.1 bt118.2.2.2.2.2.2.2.2.2.2.2.2.2)))))) = some r := h
  clear h
  replace H := Option.bind_eq_some_iff.mp H
  obtain ⟨t101, A20, H⟩ := H
  replace H : (if t101 = true then (some true) else ((spec_DrawDueRenew.f k l0).bind fun bt102 => ((impl_DueRenew.f bt102.1 bt102.2.1 bt102.2.2.1 bt102.2.2.2.1 bt102.2.2.2.2.1 bt102.2.2.2.2.2.1 bt102.2.2.2.2.2.2.1 bt102.2.2.2.2.2.2.2.1 bt102.2.2.2.2.2.2.2.2.1 bt102.2.2.2.2.2.2.2.2.2.1 bt102.2.2.2.2.2.2.2.2.2.2.1 bt102.2.2.2.2.2.2.2.2.2.2.2.1 bt102.2.2.2.2.2.2.2.2.2.2.2.2.1 bt102.2.2.2.2.2.2.2.2.2.2.2.2.2.1 bt102.2.2.2.2.2.2.2.2.2.2.2.2.2.2).bind fun bt118 => ((spec_DueRenew.f bt102.1 bt102.2.1 bt102.2.2.1 bt102.2.2.2.1 bt102.2.2.2.2.1 bt102.2.2.2.2.2.1 bt102.2.2.2.2.2.2.1 bt102.2.2.2.2.2.2.2.1 bt102.2.2.2.2.2.2.2.2.1 bt102.2.2.2.2.2.2.2.2.2.1 bt102.2.2.2.2.2.2.2.2.2.2.1 bt102.2.2.2.2.2.2.2.2.2.2.2.1 bt102.2.2.2.2.2.2.2.2.2.2.2.2.1 bt102.2.2.2.2.2.2.2.2.2.2.2.2.2.1 bt102.2.2.2.2.2.2.2.2.2.2.2.2.2.2).bind fun bt133 => (laws_FnRenewed.j0 k bt102.2.2.2.2.2.2.2.2.2.2.2.2.2.2 (!(bt118.1 == bt133.1) || (!(bt118.2.1 == bt133.2.1) || (!(bt118.2.2.1 == bt133.2.2.1) || (!(bt118.2.2.2.1 == bt133.2.2.2.1) || (!(bt118.2.2.2.2.1 == bt133.2.2.2.2.1) || (!(bt118.2.2.2.2.2.1 == bt133.2.2.2.2.2.1) || (!(bt118.2.2.2.2.2.2.1 == bt133.2.2.2.2.2.2.1) || (!(bt118.2.2.2.2.2.2.2.1 == bt133.2.2.2.2.2.2.2.1) || (!(bt118.2.2.2.2.2.2.2.2.1 == bt133.2.2.2.2.2.2.2.2.1) || (!(bt118.2.2.2.2.2.2.2.2.2.1 == bt133.2.2.2.2.2.2.2.2.2.1) || (!(bt118.2.2.2.2.2.2.2.2.2.2.1 == bt133.2.2.2.2.2.2.2.2.2.2.1) || (!(bt118.2.2.2.2.2.2.2.2.2.2.2.1 == bt133.2.2.2.2.2.2.2.2.2.2.2.1) || (!(bt118.2.2.2.2.2.2.2.2.2.2.2.2.1 == bt133.2.2.2.2.2.2.2.2.2.2.2.2.1) || (!(bt118.2.2.2.2.2.2.2.2.2.2.2.2.2 == bt133.2.2.2.2.2.2.2.2.2.2.2.2.2))))))))))))))) bt102.1 bt102.2.1 bt102.2.2.1 bt102.2.2.2.1 bt102.2.2.2.2.1 bt102.2.2.2.2.2.1 bt102.2.2.2.2.2.2.1 bt102.2.2.2.2.2.2.2.1 bt102.2.2.2.2.2.2.2.2.1 bt102.2.2.2.2.2.2.2.2.2.1 bt102.2.2.2.2.2.2.2.2.2.2.1 bt102.2.2.2.2.2.2.2.2.2.2.2.1 bt102.2.2.2.2.2.2.2.2.2.2.2.2.1 bt102.2.2.2.2.2.2.2.2.2.2.2.2.2.1 bt118.1 bt118.2.1 bt118.2.2.1 bt118.2.2.2.1 bt118.2.2.2.2.1 bt118.2.2.2.2.2.1 bt118.2.2.2.2.2.2.1 bt118.2.2.2.2.2.2.2.1 bt118.2.2.2.2.2.2.2.2.1 bt118.2.2.2.2.2.2.2.2.2.1 bt118.2.2.2.2.2.2.2.2.2.2.1 bt118.2.2.2.2.2.2.2.2.2.2.2.1 bt118.2.2.2.2.2.2.2.2.2.2.2.2.1 bt118.2.2.2.2.2.2.2.2.2.2.2.2.2))))) = some r := H
  have A2 := Aside0.mk A20
  clear A20
  by_cases c3 : t101 = true
  · subst c3
    have H1 : (some true) = some r := by rw [if_pos rfl] at H; exact H
    clear H
    have H := H1
    clear H1
    obtain rfl := Option.some.inj H
    go_enter Try.func10, Try.ntmps10
    go_wp2_with (first | ((with_reducible refine gate_callee (f := 19) rfl ?_); refine goesL_ (some 7) rfl rfl Try.func19 (by kernel_rfl) rfl #[.slice A0 l0.length c0] rfl (by (try simp only [List.map_toArray, List.map_cons, List.map_nil]); first | done | rfl | (simp only [List.length_drop, List.length_take]; rfl)) ?_; (with_reducible refine (laws_big.calls _ _ l0 true _ ?side1 ?side2 A2.out).mono ?_); (case side1 => repeat (first | exact HR0.out | (with_reducible refine Kd.C_alloc ?_ _) | (with_reducible refine Kd.C_drewN ?_ _) | (with_reducible refine Kd.C_drew ?_))); (case side2 => exact HC0.out); rintro e w' ⟨rfl, ⟨nd, rfl⟩⟩; refine ⟨_, rfl, ?_⟩))
    go_ret
    exact ⟨by first | rfl | (simp <;> rfl) | (simp [*] <;> rfl), by repeat (first | (with_reducible first | exact HB.out | apply beA | apply beD | apply bed) | exact HB.out)⟩
  replace c3 := Bool.eq_false_iff.mpr c3
  subst c3
  have H1 : ((spec_DrawDueRenew.f k l0).bind fun bt102 => ((impl_DueRenew.f bt102.1 bt102.2.1 bt102.2.2.1 bt102.2.2.2.1 bt102.2.2.2.2.1 bt102.2.2.2.2.2.1 bt102.2.2.2.2.2.2.1 bt102.2.2.2.2.2.2.2.1 bt102.2.2.2.2.2.2.2.2.1 bt102.2.2.2.2.2.2.2.2.2.1 bt102.2.2.2.2.2.2.2.2.2.2.1 bt102.2.2.2.2.2.2.2.2.2.2.2.1 bt102.2.2.2.2.2.2.2.2.2.2.2.2.1 bt102.2.2.2.2.2.2.2.2.2.2.2.2.2.1 bt102.2.2.2.2.2.2.2.2.2.2.2.2.2.2).bind fun bt118 => ((spec_DueRenew.f bt102.1 bt102.2.1 bt102.2.2.1 bt102.2.2.2.1 bt102.2.2.2.2.1 bt102.2.2.2.2.2.1 bt102.2.2.2.2.2.2.1 bt102.2.2.2.2.2.2.2.1 bt102.2.2.2.2.2.2.2.2.1 bt102.2.2.2.2.2.2.2.2.2.1 bt102.2.2.2.2.2.2.2.2.2.2.1 bt102.2.2.2.2.2.2.2.2.2.2.2.1 bt102.2.2.2.2.2.2.2.2.2.2.2.2.1 bt102.2.2.2.2.2.2.2.2.2.2.2.2.2.1 bt102.2.2.2.2.2.2.2.2.2.2.2.2.2.2).bind fun bt133 => (laws_FnRenewed.j0 k bt102.2.2.2.2.2.2.2.2.2.2.2.2.2.2 (!(bt118.1 == bt133.1) || (!(bt118.2.1 == bt133.2.1) || (!(bt118.2.2.1 == bt133.2.2.1) || (!(bt118.2.2.2.1 == bt133.2.2.2.1) || (!(bt118.2.2.2.2.1 == bt133.2.2.2.2.1) || (!(bt118.2.2.2.2.2.1 == bt133.2.2.2.2.2.1) || (!(bt118.2.2.2.2.2.2.1 == bt133.2.2.2.2.2.2.1) || (!(bt118.2.2.2.2.2.2.2.1 == bt133.2.2.2.2.2.2.2.1) || (!(bt118.2.2.2.2.2.2.2.2.1 == bt133.2.2.2.2.2.2.2.2.1) || (!(bt118.2.2.2.2.2.2.2.2.2.1 == bt133.2.2.2.2.2.2.2.2.2.1) || (!(bt118.2.2.2.2.2.2.2.2.2.2.1 == bt133.2.2.2.2.2.2.2.2.2.2.1) || (!(bt118.2.2.2.2.2.2.2.2.2.2.2.1 == bt133.2.2.2.2.2.2.2.2.2.2.2.1) || (!(bt118.2.2.2.2.2.2.2.2.2.2.2.2.1 == bt133.2.2.2.2.2.2.2.2.2.2.2.2.1) || (!(bt118.2.2.2.2.2.2.2.2.2.2.2.2.2 == bt133.2.2.2.2.2.2.2.2.2.2.2.2.2))))))))))))))) bt102.1 bt102.2.1 bt102.2.2.1 bt102.2.2.2.1 bt102.2.2.2.2.1 bt102.2.2.2.2.2.1 bt102.2.2.2.2.2.2.1 bt102.2.2.2.2.2.2.2.1 bt102.2.2.2.2.2.2.2.2.1 bt102.2.2.2.2.2.2.2.2.2.1 bt102.2.2.2.2.2.2.2.2.2.2.1 bt102.2.2.2.2.2.2.2.2.2.2.2.1 bt102.2.2.2.2.2.2.2.2.2.2.2.2.1 bt102.2.2.2.2.2.2.2.2.2.2.2.2.2.1 bt118.1 bt118.2.1 bt118.2.2.1 bt118.2.2.2.1 bt118.2.2.2.2.1 bt118.2.2.2.2.2.1 bt118.2.2.2.2.2.2.1 bt118.2.2.2.2.2.2.2.1 bt118.2.2.2.2.2.2.2.2.1 bt118.2.2.2.2.2.2.2.2.2.1 bt118.2.2.2.2.2.2.2.2.2.2.1 bt118.2.2.2.2.2.2.2.2.2.2.2.1 bt118.2.2.2.2.2.2.2.2.2.2.2.2.1 bt118.2.2.2.2.2.2.2.2.2.2.2.2.2)))) = some r := by rw [if_neg (show ¬ (false = true) by decide)] at H; exact H
  clear H
  have H := H1
  clear H1
  replace H := Option.bind_eq_some_iff.mp H
  obtain ⟨⟨t102, t103, t104, t105, t106, t107, t108, t109, t110, t111, t112, t113, t114, t115, t116⟩, A40, H⟩ := H
  replace H : ((impl_DueRenew.f t102 t103 t104 t105 t106 t107 t108 t109 t110 t111 t112 t113 t114 t115 t116).bind fun bt118 => ((spec_DueRenew.f t102 t103 t104 t105 t106 t107 t108 t109 t110 t111 t112 t113 t114 t115 t116).bind fun bt133 => (laws_FnRenewed.j0 k t116 (!(bt118.1 == bt133.1) || (!(bt118.2.1 == bt133.2.1) || (!(bt118.2.2.1 == bt133.2.2.1) || (!(bt118.2.2.2.1 == bt133.2.2.2.1) || (!(bt118.2.2.2.2.1 == bt133.2.2.2.2.1) || (!(bt118.2.2.2.2.2.1 == bt133.2.2.2.2.2.1) || (!(bt118.2.2.2.2.2.2.1 == bt133.2.2.2.2.2.2.1) || (!(bt118.2.2.2.2.2.2.2.1 == bt133.2.2.2.2.2.2.2.1) || (!(bt118.2.2.2.2.2.2.2.2.1 == bt133.2.2.2.2.2.2.2.2.1) || (!(bt118.2.2.2.2.2.2.2.2.2.1 == bt133.2.2.2.2.2.2.2.2.2.1) || (!(bt118.2.2.2.2.2.2.2.2.2.2.1 == bt133.2.2.2.2.2.2.2.2.2.2.1) || (!(bt118.2.2.2.2.2.2.2.2.2.2.2.1 == bt133.2.2.2.2.2.2.2.2.2.2.2.1) || (!(bt118.2.2.2.2.2.2.2.2.2.2.2.2.1 == bt133.2.2.2.2.2.2.2.2.2.2.2.2.1) || (!(bt118.2.2.2.2.2.2.2.2.2.2.2.2.2 == bt133.2.2.2.2.2.2.2.2.2.2.2.2.2))))))))))))))) t102 t103 t104 t105 t106 t107 t108 t109 t110 t111 t112 t113 t114 t115 bt118.1 bt118.2.1 bt118.2.2.1 bt118.2.2.2.1 bt118.2.2.2.2.1 bt118.2.2.2.2.2.1 bt118.2.2.2.2.2.2.1 bt118.2.2.2.2.2.2.2.1 bt118.2.2.2.2.2.2.2.2.1 bt118.2.2.2.2.2.2.2.2.2.1 bt118.2.2.2.2.2.2.2.2.2.2.1 bt118.2.2.2.2.2.2.2.2.2.2.2.1 bt118.2.2.2.2.2.2.2.2.2.2.2.2.1 bt118.2.2.2.2.2.2.2.2.2.2.2.2.2))) = some r := H
  have A4 := Aside0.mk A40
  clear A40
  replace H := Option.bind_eq_some_iff.mp H
  obtain ⟨⟨t118, t119, t120, t121, t122, t123, t124, t125, t126, t127, t128, t129, t130, t131⟩, A50, H⟩ := H
  replace H : ((spec_DueRenew.f t102 t103 t104 t105 t106 t107 t108 t109 t110 t111 t112 t113 t114 t115 t116).bind fun bt133 => (laws_FnRenewed.j0 k t116 (!(t118 == bt133.1) || (!(t119 == bt133.2.1) || (!(t120 == bt133.2.2.1) || (!(t121 == bt133.2.2.2.1) || (!(t122 == bt133.2.2.2.2.1) || (!(t123 == bt133.2.2.2.2.2.1) || (!(t124 == bt133.2.2.2.2.2.2.1) || (!(t125 == bt133.2.2.2.2.2.2.2.1) || (!(t126 == bt133.2.2.2.2.2.2.2.2.1) || (!(t127 == bt133.2.2.2.2.2.2.2.2.2.1) || (!(t128 == bt133.2.2.2.2.2.2.2.2.2.2.1) || (!(t129 == bt133.2.2.2.2.2.2.2.2.2.2.2.1) || (!(t130 == bt133.2.2.2.2.2.2.2.2.2.2.2.2.1) || (!(t131 == bt133.2.2.2.2.2.2.2.2.2.2.2.2.2))))))))))))))) t102 t103 t104 t105 t106 t107 t108 t109 t110 t111 t112 t113 t114 t115 t118 t119 t120 t121 t122 t123 t124 t125 t126 t127 t128 t129 t130 t131)) = some r := H
  have A5 := Aside0.mk A50
  clear A50
  have HC6 := Aside0.mk H
  clear H
  go_enter Try.func10, Try.ntmps10
  go_upto_region 5 with (first | ((with_reducible refine gate_callee (f := 19) rfl ?_); refine goesL_ (some 7) rfl rfl Try.func19 (by kernel_rfl) rfl #[.slice A0 l0.length c0] rfl (by (try simp only [List.map_toArray, List.map_cons, List.map_nil]); first | done | rfl | (simp only [List.length_drop, List.length_take]; rfl)) ?_; (with_reducible refine (laws_big.calls _ _ l0 false _ ?side1 ?side2 A2.out).mono ?_); (case side1 => repeat (first | exact HR0.out | (with_reducible refine Kd.C_alloc ?_ _) | (with_reducible refine Kd.C_drewN ?_ _) | (with_reducible refine Kd.C_drew ?_))); (case side2 => exact HC0.out); rintro e w' ⟨rfl, ⟨nd, rfl⟩⟩; refine ⟨_, rfl, ?_⟩) | ((with_reducible refine gate_callee (f := 46) rfl ?_); refine goesL_ (some 10) rfl rfl Try.func46 (by kernel_rfl) rfl #[.slice A0 l0.length c0] rfl (by (try simp only [List.map_toArray, List.map_cons, List.map_nil]); first | done | rfl | (simp only [List.length_drop, List.length_take]; rfl)) ?_; (with_reducible refine (spec_DrawDueRenew.calls k _ _ l0 t102 t103 t104 t105 t106 t107 t108 t109 t110 t111 t112 t113 t114 t115 t116 _ ?side1 ?side2 A4.out).mono ?_); (case side1 => repeat (first | exact HR0.out | (with_reducible refine Kd.C_alloc ?_ _) | (with_reducible refine Kd.C_drewN ?_ _) | (with_reducible refine Kd.C_drew ?_))); (case side2 => exact HC0.out); rintro e w7 ⟨rfl, hb⟩; refine ⟨_, rfl, ?_⟩; have n0_ := aM (below_step (by repeat (first | (with_reducible first | exact HB.out | apply beA | apply beD | apply bed) | exact HB.out)) hb); clear HB; have HB := n0_; clear n0_; (try clear hb); (try clear hb2); (try clear hk); (try clear hi)) | ((with_reducible refine gate_dst (N := 3) rfl ?_); refine box_event ?hg (N := 3) ?hd (cs := tk14 0 0 0 0 false 0 0 0 0 0 0 0 0 0) (t := 24) ?hr ?_; (case hd => rfl); (case hg => rfl); (case hr => first | (go_simp; done) | (go_simp; rfl)); intro gb117 hg w8 hbox hb; have n0_ := aM (below_step (by repeat (first | (with_reducible first | exact HB.out | apply beA | apply beD | apply bed) | exact HB.out)) hb); have n1_ := aM (hbox); have n2_ := aM ((by rw [hg]; exact (below_size (by repeat (first | (with_reducible first | exact HB.out | apply beA | apply beD | apply bed) | exact HB.out))) : w.heap.size ≤ gb117)); have n3_ := n2_; clear HB; have HB := n0_; have BK117 := n1_; have GW117 := n2_; have GE117 := n3_; clear n0_ n1_ n2_ n3_; clear hb hbox hg; obtain ⟨hcz9_0, hcz9_1, hcz9_2, hcz9_3, hcz9_4, hcz9_5, hcz9_6, hcz9_7, hcz9_8, hcz9_9, hcz9_10, hcz9_11, hcz9_12, hcz9_13⟩ := cz14 BK117.out; have hfz9_0 := blk_frozen BK117.out) | ((with_reducible refine gate_callee (f := 47) rfl ?_); refine goesL_ (some 15) rfl rfl Try.func47 (by kernel_rfl) rfl #[.agg #[.int .i64 t102, .int .i64 t103, .int .i64 t104, .int .i64 t105, .bool t106, .int .i64 t107, .int .i64 t108, .int .i64 t109, .int .i64 t110, .int .i64 t111, .int .i64 t112, .int .i64 t113, .int .i64 t114, .int .i64 t115], .int .i64 t116] rfl (by (try simp only [List.map_toArray, List.map_cons, List.map_nil]); first | done | rfl | (simp only [List.length_drop, List.length_take]; rfl)) ?_; (with_reducible refine (impl_DueRenew.calls t102 t103 t104 t105 t106 t107 t108 t109 t110 t111 t112 t113 t114 t115 t116 t118 t119 t120 t121 t122 t123 t124 t125 t126 t127 t128 t129 t130 t131 _ A5.out).mono ?_); rintro e w10 ⟨rfl, hb⟩; refine ⟨_, rfl, ?_⟩; have n0_ := aM (blk_below (g := gb117) (o := .cells (tk14 t102 t103 t104 t105 t106 t107 t108 t109 t110 t111 t112 t113 t114 t115) 24 (0, 0)) (by (with_reducible repeat (first | apply bkD | apply bkd | apply bkA)); refine blk_put (cs := tk14 t102 t103 t104 t105 t106 t107 t108 t109 t110 t111 t112 t113 t114 0) ?_ 13 _ rfl; (with_reducible repeat (first | apply bkD | apply bkd | apply bkA)); refine blk_put (cs := tk14 t102 t103 t104 t105 t106 t107 t108 t109 t110 t111 t112 t113 0 0) ?_ 12 _ rfl; (with_reducible repeat (first | apply bkD | apply bkd | apply bkA)); refine blk_put (cs := tk14 t102 t103 t104 t105 t106 t107 t108 t109 t110 t111 t112 0 0 0) ?_ 11 _ rfl; (with_reducible repeat (first | apply bkD | apply bkd | apply bkA)); refine blk_put (cs := tk14 t102 t103 t104 t105 t106 t107 t108 t109 t110 t111 0 0 0 0) ?_ 10 _ rfl; (with_reducible repeat (first | apply bkD | apply bkd | apply bkA)); refine blk_put (cs := tk14 t102 t103 t104 t105 t106 t107 t108 t109 t110 0 0 0 0 0) ?_ 9 _ rfl; (with_reducible repeat (first | apply bkD | apply bkd | apply bkA)); refine blk_put (cs := tk14 t102 t103 t104 t105 t106 t107 t108 t109 0 0 0 0 0 0) ?_ 8 _ rfl; (with_reducible repeat (first | apply bkD | apply bkd | apply bkA)); refine blk_put (cs := tk14 t102 t103 t104 t105 t106 t107 t108 0 0 0 0 0 0 0) ?_ 7 _ rfl; (with_reducible repeat (first | apply bkD | apply bkd | apply bkA)); refine blk_put (cs := tk14 t102 t103 t104 t105 t106 t107 0 0 0 0 0 0 0 0) ?_ 6 _ rfl; (with_reducible repeat (first | apply bkD | apply bkd | apply bkA)); refine blk_put (cs := tk14 t102 t103 t104 t105 t106 0 0 0 0 0 0 0 0 0) ?_ 5 _ rfl; (with_reducible repeat (first | apply bkD | apply bkd | apply bkA)); refine blk_put (cs := tk14 t102 t103 t104 t105 false 0 0 0 0 0 0 0 0 0) ?_ 4 _ rfl; (with_reducible repeat (first | apply bkD | apply bkd | apply bkA)); refine blk_put (cs := tk14 t102 t103 t104 0 false 0 0 0 0 0 0 0 0 0) ?_ 3 _ rfl; (with_reducible repeat (first | apply bkD | apply bkd | apply bkA)); refine blk_put (cs := tk14 t102 t103 0 0 false 0 0 0 0 0 0 0 0 0) ?_ 2 _ rfl; (with_reducible repeat (first | apply bkD | apply bkd | apply bkA)); refine blk_put (cs := tk14 t102 0 0 0 false 0 0 0 0 0 0 0 0 0) ?_ 1 _ rfl; (with_reducible repeat (first | apply bkD | apply bkd | apply bkA)); refine blk_put (cs := tk14 0 0 0 0 false 0 0 0 0 0 0 0 0 0) ?_ 0 _ rfl; (with_reducible repeat (first | apply bkD | apply bkd | apply bkA)); exact BK117.out) hb); have n1_ := aM (below_step (by repeat (first | (with_reducible first | exact HB.out | apply beA | apply beD | apply bed | refine beS ?_ GE117.out) | exact HB.out)) hb); clear BK117; clear HB; have BK117 := n0_; have HB := n1_; clear n0_ n1_; (try clear hb); (try clear hb2); (try clear hk); (try clear hi)) | ((with_reducible refine gate_dst (N := 5) rfl ?_); refine box_event ?hg (N := 5) ?hd (cs := tk14 0 0 0 0 false 0 0 0 0 0 0 0 0 0) (t := 24) ?hr ?_; (case hd => rfl); (case hg => rfl); (case hr => first | (go_simp; done) | (go_simp; rfl)); intro gb132 hg w11 hbox hb; have n0_ := aM (blk_below (g := gb117) (o := .cells (tk14 t102 t103 t104 t105 t106 t107 t108 t109 t110 t111 t112 t113 t114 t115) 24 (0, 0)) (by (with_reducible repeat (first | apply bkD | apply bkd | apply bkA)); exact BK117.out) hb); have n1_ := aM (below_step (by repeat (first | (with_reducible first | exact HB.out | apply beA | apply beD | apply bed | refine beS ?_ GE117.out) | exact HB.out)) hb); have n2_ := aM (hbox); have n3_ := aM ((by rw [hg]; exact (below_size (by repeat (first | (with_reducible first | exact HB.out | apply beA | apply beD | apply bed | refine beS ?_ GE117.out) | exact HB.out))) : w.heap.size ≤ gb132)); have n4_ := n3_; have n5_ := aM ((by rw [hg]; exact Nat.ne_of_lt (blk_lt (g := gb117) (o := .cells (tk14 t102 t103 t104 t105 t106 t107 t108 t109 t110 t111 t112 t113 t114 t115) 24 (0, 0)) (by (with_reducible repeat (first | apply bkD | apply bkd | apply bkA)); exact BK117.out)) : gb117 ≠ gb132)); have n6_ := aM (n5_.out.symm); clear BK117; clear HB; have BK117 := n0_; have HB := n1_; have BK132 := n2_; have GW132 := n3_; have GE132 := n4_; have NB117_132 := n5_; have NB132_117 := n6_; clear n0_ n1_ n2_ n3_ n4_ n5_ n6_; clear hb hbox hg; have hnb12 := NB132_117.out; have hnc12 := NB117_132.out; obtain ⟨hcz13_0, hcz13_1, hcz13_2, hcz13_3, hcz13_4, hcz13_5, hcz13_6, hcz13_7, hcz13_8, hcz13_9, hcz13_10, hcz13_11, hcz13_12, hcz13_13⟩ := cz14 BK132.out; have hfz13_0 := blk_frozen BK132.out))
  (try simp only [Act.put, List.setIfInBounds_toArray, List.set_cons_zero, List.set_cons_succ])
  go_cut [20] (fun v20 wc => ∃ (kq : Nat) (x20_5 : Bool), v20 = .bool x20_5 ∧ Aside0 (laws_FnRenewed.j0 kq t116 x20_5 t102 t103 t104 t105 t106 t107 t108 t109 t110 t111 t112 t113 t114 t115 t118 t119 t120 t121 t122 t123 t124 t125 t126 t127 t128 t129 t130 t131 = some r) ∧ Aside0 (kq ≤ k) ∧ Aside0 (wc.heap[gb117]? = some (.cells #[.int .i64 t102, .int .i64 t103, .int .i64 t104, .int .i64 t105, .bool t106, .int .i64 t107, .int .i64 t108, .int .i64 t109, .int .i64 t110, .int .i64 t111, .int .i64 t112, .int .i64 t113, .int .i64 t114, .int .i64 t115] 24 (0, 0))) ∧ Aside0 (wc.heap[gb132]? = some (.cells #[.int .i64 t118, .int .i64 t119, .int .i64 t120, .int .i64 t121, .bool t122, .int .i64 t123, .int .i64 t124, .int .i64 t125, .int .i64 t126, .int .i64 t127, .int .i64 t128, .int .i64 t129, .int .i64 t130, .int .i64 t131] 24 (0, 0))) ∧ Aside0 (Below w.heap.size w wc))
  case first =>
    have H := HC6.out
    clear HC6
    replace H := Option.bind_eq_some_iff.mp H
    obtain ⟨⟨t133, t134, t135, t136, t137, t138, t139, t140, t141, t142, t143, t144, t145, t146⟩, A140, H⟩ := H
    replace H : (laws_FnRenewed.j0 k t116 (!(t118 == t133) || (!(t119 == t134) || (!(t120 == t135) || (!(t121 == t136) || (!(t122 == t137) || (!(t123 == t138) || (!(t124 == t139) || (!(t125 == t140) || (!(t126 == t141) || (!(t127 == t142) || (!(t128 == t143) || (!(t129 == t144) || (!(t130 == t145) || (!(t131 == t146))))))))))))))) t102 t103 t104 t105 t106 t107 t108 t109 t110 t111 t112 t113 t114 t115 t118 t119 t120 t121 t122 t123 t124 t125 t126 t127 t128 t129 t130 t131) = some r := H
    have A14 := Aside0.mk A140
    clear A140
    have H' := Aside0.mk H
    clear H
    try go_wp2
    have n0_ : Aside0 (((((((((((((((w11.setCell ⟨gb132, 0, none⟩ (.int .i64 t118)).setCell ⟨gb132, 1, none⟩ (.int .i64 t119)).setCell ⟨gb132, 2, none⟩ (.int .i64 t120)).setCell ⟨gb132, 3, none⟩ (.int .i64 t121)).setCell ⟨gb132, 4, none⟩ (.bool t122)).setCell ⟨gb132, 5, none⟩ (.int .i64 t123)).setCell ⟨gb132, 6, none⟩ (.int .i64 t124)).setCell ⟨gb132, 7, none⟩ (.int .i64 t125)).setCell ⟨gb132, 8, none⟩ (.int .i64 t126)).setCell ⟨gb132, 9, none⟩ (.int .i64 t127)).setCell ⟨gb132, 10, none⟩ (.int .i64 t128)).setCell ⟨gb132, 11, none⟩ (.int .i64 t129)).setCell ⟨gb132, 12, none⟩ (.int .i64 t130)).setCell ⟨gb132, 13, none⟩ (.int .i64 t131)).heap[gb117]? = some (.cells #[.int .i64 t102, .int .i64 t103, .int .i64 t104, .int .i64 t105, .bool t106, .int .i64 t107, .int .i64 t108, .int .i64 t109, .int .i64 t110, .int .i64 t111, .int .i64 t112, .int .i64 t113, .int .i64 t114, .int .i64 t115] 24 (0, 0))) := ⟨by (with_reducible repeat (first | apply bkD | apply bkd | apply bkA)); refine blk_far ?_ NB117_132.out _; (with_reducible repeat (first | apply bkD | apply bkd | apply bkA)); refine blk_far ?_ NB117_132.out _; (with_reducible repeat (first | apply bkD | apply bkd | apply bkA)); refine blk_far ?_ NB117_132.out _; (with_reducible repeat (first | apply bkD | apply bkd | apply bkA)); refine blk_far ?_ NB117_132.out _; (with_reducible repeat (first | apply bkD | apply bkd | apply bkA)); refine blk_far ?_ NB117_132.out _; (with_reducible repeat (first | apply bkD | apply bkd | apply bkA)); refine blk_far ?_ NB117_132.out _; (with_reducible repeat (first | apply bkD | apply bkd | apply bkA)); refine blk_far ?_ NB117_132.out _; (with_reducible repeat (first | apply bkD | apply bkd | apply bkA)); refine blk_far ?_ NB117_132.out _; (with_reducible repeat (first | apply bkD | apply bkd | apply bkA)); refine blk_far ?_ NB117_132.out _; (with_reducible repeat (first | apply bkD | apply bkd | apply bkA)); refine blk_far ?_ NB117_132.out _; (with_reducible repeat (first | apply bkD | apply bkd | apply bkA)); refine blk_far ?_ NB117_132.out _; (with_reducible repeat (first | apply bkD | apply bkd | apply bkA)); refine blk_far ?_ NB117_132.out _; (with_reducible repeat (first | apply bkD | apply bkd | apply bkA)); refine blk_far ?_ NB117_132.out _; (with_reducible repeat (first | apply bkD | apply bkd | apply bkA)); refine blk_far ?_ NB117_132.out _; (with_reducible repeat (first | apply bkD | apply bkd | apply bkA)); exact BK117.out⟩
    have n1_ : Aside0 (((((((((((((((w11.setCell ⟨gb132, 0, none⟩ (.int .i64 t118)).setCell ⟨gb132, 1, none⟩ (.int .i64 t119)).setCell ⟨gb132, 2, none⟩ (.int .i64 t120)).setCell ⟨gb132, 3, none⟩ (.int .i64 t121)).setCell ⟨gb132, 4, none⟩ (.bool t122)).setCell ⟨gb132, 5, none⟩ (.int .i64 t123)).setCell ⟨gb132, 6, none⟩ (.int .i64 t124)).setCell ⟨gb132, 7, none⟩ (.int .i64 t125)).setCell ⟨gb132, 8, none⟩ (.int .i64 t126)).setCell ⟨gb132, 9, none⟩ (.int .i64 t127)).setCell ⟨gb132, 10, none⟩ (.int .i64 t128)).setCell ⟨gb132, 11, none⟩ (.int .i64 t129)).setCell ⟨gb132, 12, none⟩ (.int .i64 t130)).setCell ⟨gb132, 13, none⟩ (.int .i64 t131)).heap[gb132]? = some (.cells #[.int .i64 t118, .int .i64 t119, .int .i64 t120, .int .i64 t121, .bool t122, .int .i64 t123, .int .i64 t124, .int .i64 t125, .int .i64 t126, .int .i64 t127, .int .i64 t128, .int .i64 t129, .int .i64 t130, .int .i64 t131] 24 (0, 0))) := ⟨by (with_reducible repeat (first | apply bkD | apply bkd | apply bkA)); refine blk_put (cs := tk14 t118 t119 t120 t121 t122 t123 t124 t125 t126 t127 t128 t129 t130 0) ?_ 13 _ rfl; (with_reducible repeat (first | apply bkD | apply bkd | apply bkA)); refine blk_put (cs := tk14 t118 t119 t120 t121 t122 t123 t124 t125 t126 t127 t128 t129 0 0) ?_ 12 _ rfl; (with_reducible repeat (first | apply bkD | apply bkd | apply bkA)); refine blk_put (cs := tk14 t118 t119 t120 t121 t122 t123 t124 t125 t126 t127 t128 0 0 0) ?_ 11 _ rfl; (with_reducible repeat (first | apply bkD | apply bkd | apply bkA)); refine blk_put (cs := tk14 t118 t119 t120 t121 t122 t123 t124 t125 t126 t127 0 0 0 0) ?_ 10 _ rfl; (with_reducible repeat (first | apply bkD | apply bkd | apply bkA)); refine blk_put (cs := tk14 t118 t119 t120 t121 t122 t123 t124 t125 t126 0 0 0 0 0) ?_ 9 _ rfl; (with_reducible repeat (first | apply bkD | apply bkd | apply bkA)); refine blk_put (cs := tk14 t118 t119 t120 t121 t122 t123 t124 t125 0 0 0 0 0 0) ?_ 8 _ rfl; (with_reducible repeat (first | apply bkD | apply bkd | apply bkA)); refine blk_put (cs := tk14 t118 t119 t120 t121 t122 t123 t124 0 0 0 0 0 0 0) ?_ 7 _ rfl; (with_reducible repeat (first | apply bkD | apply bkd | apply bkA)); refine blk_put (cs := tk14 t118 t119 t120 t121 t122 t123 0 0 0 0 0 0 0 0) ?_ 6 _ rfl; (with_reducible repeat (first | apply bkD | apply bkd | apply bkA)); refine blk_put (cs := tk14 t118 t119 t120 t121 t122 0 0 0 0 0 0 0 0 0) ?_ 5 _ rfl; (with_reducible repeat (first | apply bkD | apply bkd | apply bkA)); refine blk_put (cs := tk14 t118 t119 t120 t121 false 0 0 0 0 0 0 0 0 0) ?_ 4 _ rfl; (with_reducible repeat (first | apply bkD | apply bkd | apply bkA)); refine blk_put (cs := tk14 t118 t119 t120 0 false 0 0 0 0 0 0 0 0 0) ?_ 3 _ rfl; (with_reducible repeat (first | apply bkD | apply bkd | apply bkA)); refine blk_put (cs := tk14 t118 t119 0 0 false 0 0 0 0 0 0 0 0 0) ?_ 2 _ rfl; (with_reducible repeat (first | apply bkD | apply bkd | apply bkA)); refine blk_put (cs := tk14 t118 0 0 0 false 0 0 0 0 0 0 0 0 0) ?_ 1 _ rfl; (with_reducible repeat (first | apply bkD | apply bkd | apply bkA)); refine blk_put (cs := tk14 0 0 0 0 false 0 0 0 0 0 0 0 0 0) ?_ 0 _ rfl; (with_reducible repeat (first | apply bkD | apply bkd | apply bkA)); exact BK132.out⟩
    have n2_ : Aside0 (Below w.heap.size w ((((((((((((((w11.setCell ⟨gb132, 0, none⟩ (.int .i64 t118)).setCell ⟨gb132, 1, none⟩ (.int .i64 t119)).setCell ⟨gb132, 2, none⟩ (.int .i64 t120)).setCell ⟨gb132, 3, none⟩ (.int .i64 t121)).setCell ⟨gb132, 4, none⟩ (.bool t122)).setCell ⟨gb132, 5, none⟩ (.int .i64 t123)).setCell ⟨gb132, 6, none⟩ (.int .i64 t124)).setCell ⟨gb132, 7, none⟩ (.int .i64 t125)).setCell ⟨gb132, 8, none⟩ (.int .i64 t126)).setCell ⟨gb132, 9, none⟩ (.int .i64 t127)).setCell ⟨gb132, 10, none⟩ (.int .i64 t128)).setCell ⟨gb132, 11, none⟩ (.int .i64 t129)).setCell ⟨gb132, 12, none⟩ (.int .i64 t130)).setCell ⟨gb132, 13, none⟩ (.int .i64 t131))) := ⟨by repeat (first | (with_reducible first | exact HB.out | apply beA | apply beD | apply bed | refine beS ?_ GE117.out | refine beS ?_ GE132.out) | exact HB.out)⟩
    (try clear BK117)
    (try clear BK132)
    (try clear HB)
    generalize ((((((((((((((w11.setCell ⟨gb132, 0, none⟩ (.int .i64 t118)).setCell ⟨gb132, 1, none⟩ (.int .i64 t119)).setCell ⟨gb132, 2, none⟩ (.int .i64 t120)).setCell ⟨gb132, 3, none⟩ (.int .i64 t121)).setCell ⟨gb132, 4, none⟩ (.bool t122)).setCell ⟨gb132, 5, none⟩ (.int .i64 t123)).setCell ⟨gb132, 6, none⟩ (.int .i64 t124)).setCell ⟨gb132, 7, none⟩ (.int .i64 t125)).setCell ⟨gb132, 8, none⟩ (.int .i64 t126)).setCell ⟨gb132, 9, none⟩ (.int .i64 t127)).setCell ⟨gb132, 10, none⟩ (.int .i64 t128)).setCell ⟨gb132, 11, none⟩ (.int .i64 t129)).setCell ⟨gb132, 12, none⟩ (.int .i64 t130)).setCell ⟨gb132, 13, none⟩ (.int .i64 t131)) = w15 at n0_ n1_ n2_ ⊢
    have BK117 := n0_
    have BK132 := n1_
    have HB := n2_
    clear n0_ n1_ n2_
    have n0_ := aM (blk_drew BK117.out)
    have n1_ := aM (blk_drew BK132.out)
    have n2_ := aM (below_drew1 HB.out)
    clear BK117
    clear BK132
    clear HB
    have BK117 := n0_
    have BK132 := n1_
    have HB := n2_
    clear n0_ n1_ n2_
    refine start_ (n := 5) (S := fun w' => cb14t w' gb132 (.int .i64 t118) (.int .i64 t119) (.int .i64 t120) (.int .i64 t121) (.bool t122) (.int .i64 t123) (.int .i64 t124) (.int .i64 t125) (.int .i64 t126) (.int .i64 t127) (.int .i64 t128) (.int .i64 t129) (.int .i64 t130) (.int .i64 t131) (cb14 w' gb117 (.int .i64 t102) (.int .i64 t103) (.int .i64 t104) (.int .i64 t105) (.bool t106) (.int .i64 t107) (.int .i64 t108) (.int .i64 t109) (.int .i64 t110) (.int .i64 t111) (.int .i64 t112) (.int .i64 t113) (.int .i64 t114) (.int .i64 t115))) (ds := []) #[false, false, false, false, false] (by kernel_rfl) rfl rfl ⟨(blk_cell BK132.out 0).trans rfl, (blk_cell BK132.out 1).trans rfl, (blk_cell BK132.out 2).trans rfl, (blk_cell BK132.out 3).trans rfl, (blk_cell BK132.out 4).trans rfl, (blk_cell BK132.out 5).trans rfl, (blk_cell BK132.out 6).trans rfl, (blk_cell BK132.out 7).trans rfl, (blk_cell BK132.out 8).trans rfl, (blk_cell BK132.out 9).trans rfl, (blk_cell BK132.out 10).trans rfl, (blk_cell BK132.out 11).trans rfl, (blk_cell BK132.out 12).trans rfl, (blk_cell BK132.out 13).trans rfl, (blk_cell BK117.out 0).trans rfl, (blk_cell BK117.out 1).trans rfl, (blk_cell BK117.out 2).trans rfl, (blk_cell BK117.out 3).trans rfl, (blk_cell BK117.out 4).trans rfl, (blk_cell BK117.out 5).trans rfl, (blk_cell BK117.out 6).trans rfl, (blk_cell BK117.out 7).trans rfl, (blk_cell BK117.out 8).trans rfl, (blk_cell BK117.out 9).trans rfl, (blk_cell BK117.out 10).trans rfl, (blk_cell BK117.out 11).trans rfl, (blk_cell BK117.out 12).trans rfl, (blk_cell BK117.out 13).trans rfl⟩ (fun hHeld => ?_)
    generalize w15.drew = w16 at BK117 BK132 HB hHeld ⊢
    refine pure_ (i := 2) (N := some 18) (v := ?_) (a' := ?_) #[false, false, true, false, false] rfl rfl (by kernel_rfl) (fun _ _ _ h => h) (Or.inl ⟨by rfl, ?_⟩) ?_ ?_
    rotate_left
    · intro w'
      go_simp
      with_reducible rfl
    rotate_left
    · simp only [Act.put, List.setIfInBounds_toArray, List.set_cons_zero, List.set_cons_succ, i64_w, i32_w]
      rfl
    refine take_ (i := 0) (N := some 16) (v := ?_) (a' := ?_) #[true, false, true, false, false] rfl rfl (by kernel_rfl) (fun _ _ _ h => h) (Or.inl ⟨by rfl, ?_⟩) hHeld ?_ ?_
    rotate_left
    · rintro w' ⟨s0, s1, s2, s3, s4, s5, s6, s7, s8, s9, s10, s11, s12, s13, s14, s15, s16, s17, s18, s19, s20, s21, s22, s23, s24, s25, s26, s27⟩
      go_simp
      with_reducible rfl
    rotate_left
    · simp only [Act.put, List.setIfInBounds_toArray, List.set_cons_zero, List.set_cons_succ, i64_w, i32_w]
      rfl
    refine take_ (i := 1) (N := some 17) (v := ?_) (a' := ?_) #[true, true, true, false, false] rfl rfl (by kernel_rfl) (fun _ _ _ h => h) (Or.inl ⟨by rfl, ?_⟩) hHeld ?_ ?_
    rotate_left
    · rintro w' ⟨s0, s1, s2, s3, s4, s5, s6, s7, s8, s9, s10, s11, s12, s13, s14, s15, s16, s17, s18, s19, s20, s21, s22, s23, s24, s25, s26, s27⟩
      go_simp
      with_reducible rfl
    rotate_left
    · simp only [Act.put, List.setIfInBounds_toArray, List.set_cons_zero, List.set_cons_succ, i64_w, i32_w]
      rfl
    refine one_ (i := 3) (N := some 19) #[true, true, true, true, false] rfl rfl (by kernel_rfl) (by decide) (fun K hK => ?_)
    refine goes_ Try.func48 (by kernel_rfl) rfl #[.agg #[.int .i64 t102, .int .i64 t103, .int .i64 t104, .int .i64 t105, .bool t106, .int .i64 t107, .int .i64 t108, .int .i64 t109, .int .i64 t110, .int .i64 t111, .int .i64 t112, .int .i64 t113, .int .i64 t114, .int .i64 t115], .int .i64 t116] (by rfl) rfl rfl (by (try simp only [List.map_toArray, List.map_cons, List.map_nil]); first | done | rfl | (simp only [List.length_drop, List.length_take]; rfl)) ?_
    with_reducible refine (spec_DueRenew.calls t102 t103 t104 t105 t106 t107 t108 t109 t110 t111 t112 t113 t114 t115 t116 t133 t134 t135 t136 t137 t138 t139 t140 t141 t142 t143 t144 t145 t146 _ A14.out).mono ?_
    rintro e w17 ⟨rfl, hb⟩
    refine ⟨_, rfl, ?_⟩
    have n0_ := aM (blk_below (g := gb117) (o := .cells (tk14 t102 t103 t104 t105 t106 t107 t108 t109 t110 t111 t112 t113 t114 t115) 24 (0, 0)) (by (with_reducible repeat (first | apply bkD | apply bkd | apply bkA)); exact BK117.out) hb)
    have n1_ := aM (blk_below (g := gb132) (o := .cells (tk14 t118 t119 t120 t121 t122 t123 t124 t125 t126 t127 t128 t129 t130 t131) 24 (0, 0)) (by (with_reducible repeat (first | apply bkD | apply bkd | apply bkA)); exact BK132.out) hb)
    have n2_ := aM (below_step (by repeat (first | (with_reducible first | exact HB.out | apply beA | apply beD | apply bed | refine beS ?_ GE117.out | refine beS ?_ GE132.out) | exact HB.out)) hb)
    clear BK117
    clear BK132
    clear HB
    have BK117 := n0_
    have BK132 := n1_
    have HB := n2_
    clear n0_ n1_ n2_
    (try clear hb)
    (try clear hb2)
    (try clear hk)
    (try clear hi)
    refine hK.out _ _ ⟨(blk_cell BK132.out 0).trans rfl, (blk_cell BK132.out 1).trans rfl, (blk_cell BK132.out 2).trans rfl, (blk_cell BK132.out 3).trans rfl, (blk_cell BK132.out 4).trans rfl, (blk_cell BK132.out 5).trans rfl, (blk_cell BK132.out 6).trans rfl, (blk_cell BK132.out 7).trans rfl, (blk_cell BK132.out 8).trans rfl, (blk_cell BK132.out 9).trans rfl, (blk_cell BK132.out 10).trans rfl, (blk_cell BK132.out 11).trans rfl, (blk_cell BK132.out 12).trans rfl, (blk_cell BK132.out 13).trans rfl, (blk_cell BK117.out 0).trans rfl, (blk_cell BK117.out 1).trans rfl, (blk_cell BK117.out 2).trans rfl, (blk_cell BK117.out 3).trans rfl, (blk_cell BK117.out 4).trans rfl, (blk_cell BK117.out 5).trans rfl, (blk_cell BK117.out 6).trans rfl, (blk_cell BK117.out 7).trans rfl, (blk_cell BK117.out 8).trans rfl, (blk_cell BK117.out 9).trans rfl, (blk_cell BK117.out 10).trans rfl, (blk_cell BK117.out 11).trans rfl, (blk_cell BK117.out 12).trans rfl, (blk_cell BK117.out 13).trans rfl⟩ (fun hHeld => ?_)
    clear hK K
    refine norm_ (a' := ?_) ?_ ?_
    rotate_left
    · show Act.put _ (some 19) _ = _
      simp only [Act.put, List.setIfInBounds_toArray, List.set_cons_zero, List.set_cons_succ, i64_w, i32_w]
      rfl
    refine pure_ (i := 4) (N := some 20) (v := ?_) (a' := ?_) #[true, true, true, true, true] rfl rfl (by kernel_rfl) (fun _ _ _ h => h) (Or.inl ⟨by rfl, ?_⟩) ?_ ?_
    rotate_left
    · intro w'
      go_simp
      with_reducible rfl
    rotate_left
    · simp only [Act.put, List.setIfInBounds_toArray, List.set_cons_zero, List.set_cons_succ, i64_w, i32_w]
      rfl
    refine done_ (by kernel_rfl) ?_
    try go_wp2
    go_meet
    case rel => exact ⟨_, ((!(t118 == t133) || (!(t119 == t134) || (!(t120 == t135) || (!(t121 == t136) || (!(t122 == t137) || (!(t123 == t138) || (!(t124 == t139) || (!(t125 == t140) || (!(t126 == t141) || (!(t127 == t142) || (!(t128 == t143) || (!(t129 == t144) || (!(t130 == t145) || (!(t131 == t146)))))))))))))))), (by first | rfl | (simp; done) | (simp [*]; done)), H', ⟨by first | omega | exact Nat.le_refl _⟩, ⟨by (with_reducible repeat (first | apply bkD | apply bkd | apply bkA)); exact BK117.out⟩, ⟨by (with_reducible repeat (first | apply bkD | apply bkd | apply bkA)); exact BK132.out⟩, ⟨by repeat (first | (with_reducible first | exact HB.out | apply beA | apply beD | apply bed | refine beS ?_ GE117.out | refine beS ?_ GE132.out) | exact HB.out)⟩⟩
  case rest =>
    clear HC6
    try clear c1
    try clear p2
    try clear c3
    try clear c4
    try clear c10
    try clear c12
    try clear hcz13_0
    try clear hcz13_1
    try clear hcz13_10
    try clear hcz13_11
    try clear hcz13_12
    try clear hcz13_13
    try clear hcz13_2
    try clear hcz13_3
    try clear hcz13_4
    try clear hcz13_5
    try clear hcz13_6
    try clear hcz13_7
    try clear hcz13_8
    try clear hcz13_9
    try clear hcz9_0
    try clear hcz9_1
    try clear hcz9_10
    try clear hcz9_11
    try clear hcz9_12
    try clear hcz9_13
    try clear hcz9_2
    try clear hcz9_3
    try clear hcz9_4
    try clear hcz9_5
    try clear hcz9_6
    try clear hcz9_7
    try clear hcz9_8
    try clear hcz9_9
    try clear hfz13_0
    try clear hfz9_0
    obtain ⟨kq, x20_5, rfl, HA, HJ5, BK117, BK132, HB⟩ := hcut
    cases kq with
    | zero => exact absurd HA.out (by simp [laws_FnRenewed.j0])
    | succ kj5 =>
      have H := HA.out
      clear HA
      simp only [laws_FnRenewed.j0] at H
      by_cases c18 : x20_5 = true
      · subst c18
        have H1 : (some false) = some r := by rw [if_pos rfl] at H; exact H
        clear H
        have H := H1
        clear H1
        obtain rfl := Option.some.inj H
        go_wp2
        go_ret
        exact ⟨by first | rfl | (simp <;> rfl) | (simp [*] <;> rfl), by repeat (first | (with_reducible first | exact HB.out | apply beA | apply beD | apply bed | refine beS ?_ GE117.out | refine beS ?_ GE132.out) | exact HB.out)⟩
      replace c18 := Bool.eq_false_iff.mpr c18
      subst c18
      have H1 : ((spec_TaskOk.f t102 t103 t104 t105 t106 t107 t108 t109 t110 t111 t112 t113 t114 t115).bind fun t147 => (if t147 = true then (if t103 = 1 then (if t116 < 0 then (some (t118 == t102 && (t119 == t103 && (t120 == t104 && (t121 == t105 && (t122 == t106 && (t123 == t107 && (t124 == t108 && (t125 == t109 && (t126 == t110 && (t127 == t111 && (t128 == t112 && (t129 == t113 && (t130 == t114 && (t131 == t115))))))))))))))) else (if t116 > 100000 then (some (t118 == t102 && (t119 == t103 && (t120 == t104 && (t121 == t105 && (t122 == t106 && (t123 == t107 && (t124 == t108 && (t125 == t109 && (t126 == t110 && (t127 == t111 && (t128 == t112 && (t129 == t113 && (t130 == t114 && (t131 == t115))))))))))))))) else (if t110 > t116 then (some (t118 == t102 && (t119 == t103 && (t120 == t104 && (t121 == t105 && (t122 == t106 && (t123 == t107 && (t124 == t108 && (t125 == t109 && (t126 == t110 && (t127 == t111 && (t128 == t112 && (t129 == t113 && (t130 == t114 && (t131 == t115))))))))))))))) else (if t125 = t107 then (if t126 = (wrap64 (t110 + t108)) then ((impl_TaskOk.f t118 t119 t120 t121 t122 t123 t124 t125 t126 t127 t128 t129 t130 t131).bind fun t148 => (some t148)) else (some false)) else (some false))))) else (some (t118 == t102 && (t119 == t103 && (t120 == t104 && (t121 == t105 && (t122 == t106 && (t123 == t107 && (t124 == t108 && (t125 == t109 && (t126 == t110 && (t127 == t111 && (t128 == t112 && (t129 == t113 && (t130 == t114 && (t131 == t115)))))))))))))))) else (some (t118 == t102 && (t119 == t103 && (t120 == t104 && (t121 == t105 && (t122 == t106 && (t123 == t107 && (t124 == t108 && (t125 == t109 && (t126 == t110 && (t127 == t111 && (t128 == t112 && (t129 == t113 && (t130 == t114 && (t131 == t115))))))))))))))))) = some r := by rw [if_neg (show ¬ (false = true) by decide)] at H; exact H
      clear H
      have H := H1
      clear H1
      replace H := Option.bind_eq_some_iff.mp H
      obtain ⟨t147, A190, H⟩ := H
      replace H : (if t147 = true then (if t103 = 1 then (if t116 < 0 then (some (t118 == t102 && (t119 == t103 && (t120 == t104 && (t121 == t105 && (t122 == t106 && (t123 == t107 && (t124 == t108 && (t125 == t109 && (t126 == t110 && (t127 == t111 && (t128 == t112 && (t129 == t113 && (t130 == t114 && (t131 == t115))))))))))))))) else (if t116 > 100000 then (some (t118 == t102 && (t119 == t103 && (t120 == t104 && (t121 == t105 && (t122 == t106 && (t123 == t107 && (t124 == t108 && (t125 == t109 && (t126 == t110 && (t127 == t111 && (t128 == t112 && (t129 == t113 && (t130 == t114 && (t131 == t115))))))))))))))) else (if t110 > t116 then (some (t118 == t102 && (t119 == t103 && (t120 == t104 && (t121 == t105 && (t122 == t106 && (t123 == t107 && (t124 == t108 && (t125 == t109 && (t126 == t110 && (t127 == t111 && (t128 == t112 && (t129 == t113 && (t130 == t114 && (t131 == t115))))))))))))))) else (if t125 = t107 then (if t126 = (wrap64 (t110 + t108)) then ((impl_TaskOk.f t118 t119 t120 t121 t122 t123 t124 t125 t126 t127 t128 t129 t130 t131).bind fun t148 => (some t148)) else (some false)) else (some false))))) else (some (t118 == t102 && (t119 == t103 && (t120 == t104 && (t121 == t105 && (t122 == t106 && (t123 == t107 && (t124 == t108 && (t125 == t109 && (t126 == t110 && (t127 == t111 && (t128 == t112 && (t129 == t113 && (t130 == t114 && (t131 == t115)))))))))))))))) else (some (t118 == t102 && (t119 == t103 && (t120 == t104 && (t121 == t105 && (t122 == t106 && (t123 == t107 && (t124 == t108 && (t125 == t109 && (t126 == t110 && (t127 == t111 && (t128 == t112 && (t129 == t113 && (t130 == t114 && (t131 == t115)))))))))))))))) = some r := H
      have A19 := Aside0.mk A190
      clear A190
      by_cases c20 : t147 = true
      · subst c20
        have H1 : (if t103 = 1 then (if t116 < 0 then (some (t118 == t102 && (t119 == t103 && (t120 == t104 && (t121 == t105 && (t122 == t106 && (t123 == t107 && (t124 == t108 && (t125 == t109 && (t126 == t110 && (t127 == t111 && (t128 == t112 && (t129 == t113 && (t130 == t114 && (t131 == t115))))))))))))))) else (if t116 > 100000 then (some (t118 == t102 && (t119 == t103 && (t120 == t104 && (t121 == t105 && (t122 == t106 && (t123 == t107 && (t124 == t108 && (t125 == t109 && (t126 == t110 && (t127 == t111 && (t128 == t112 && (t129 == t113 && (t130 == t114 && (t131 == t115))))))))))))))) else (if t110 > t116 then (some (t118 == t102 && (t119 == t103 && (t120 == t104 && (t121 == t105 && (t122 == t106 && (t123 == t107 && (t124 == t108 && (t125 == t109 && (t126 == t110 && (t127 == t111 && (t128 == t112 && (t129 == t113 && (t130 == t114 && (t131 == t115))))))))))))))) else (if t125 = t107 then (if t126 = (wrap64 (t110 + t108)) then ((impl_TaskOk.f t118 t119 t120 t121 t122 t123 t124 t125 t126 t127 t128 t129 t130 t131).bind fun t148 => (some t148)) else (some false)) else (some false))))) else (some (t118 == t102 && (t119 == t103 && (t120 == t104 && (t121 == t105 && (t122 == t106 && (t123 == t107 && (t124 == t108 && (t125 == t109 && (t126 == t110 && (t127 == t111 && (t128 == t112 && (t129 == t113 && (t130 == t114 && (t131 == t115)))))))))))))))) = some r := by rw [if_pos rfl] at H; exact H
        clear H
        have H := H1
        clear H1
        by_cases c21 : t103 = 1
        · as_aux_lemma =>
            rw [if_pos c21] at H
            have c21b0 : (t103 == 1) = true := beq_iff_eq.mpr c21
            have c21b1 : (t103 != 1) = false := bne_eq_false_iff_eq.mpr c21
            clear c21
            by_cases c22 : t116 < 0
            · as_aux_lemma =>
                rw [if_pos c22] at H
                have c22b0 : decide (t116 < 0) = true := decide_eq_true c22
                clear c22
                obtain rfl := Option.some.inj H
                have hnb23 := NB117_132.out
                have hnc23 := NB132_117.out
                obtain ⟨hcz24_0, hcz24_1, hcz24_2, hcz24_3, hcz24_4, hcz24_5, hcz24_6, hcz24_7, hcz24_8, hcz24_9, hcz24_10, hcz24_11, hcz24_12, hcz24_13⟩ := cz14 BK117.out
                have hfz24_0 := blk_frozen BK117.out
                go_wp2_with (first | ((with_reducible refine gate_callee (f := 49) rfl ?_); refine goesL_ (some 22) rfl rfl Try.func49 (by kernel_rfl) rfl #[.agg #[.int .i64 t102, .int .i64 t103, .int .i64 t104, .int .i64 t105, .bool t106, .int .i64 t107, .int .i64 t108, .int .i64 t109, .int .i64 t110, .int .i64 t111, .int .i64 t112, .int .i64 t113, .int .i64 t114, .int .i64 t115]] rfl (by (try simp only [List.map_toArray, List.map_cons, List.map_nil]); first | done | rfl | (simp only [List.length_drop, List.length_take]; rfl)) ?_; (with_reducible refine (spec_TaskOk.calls t102 t103 t104 t105 t106 t107 t108 t109 t110 t111 t112 t113 t114 t115 true _ A19.out).mono ?_); rintro e w25 ⟨rfl, hb⟩; refine ⟨_, rfl, ?_⟩; have n0_ := aM (blk_below (g := gb117) (o := .cells (tk14 t102 t103 t104 t105 t106 t107 t108 t109 t110 t111 t112 t113 t114 t115) 24 (0, 0)) (by (with_reducible repeat (first | apply bkD | apply bkd | apply bkA)); exact BK117.out) hb); have n1_ := aM (blk_below (g := gb132) (o := .cells (tk14 t118 t119 t120 t121 t122 t123 t124 t125 t126 t127 t128 t129 t130 t131) 24 (0, 0)) (by (with_reducible repeat (first | apply bkD | apply bkd | apply bkA)); exact BK132.out) hb); have n2_ := aM (below_step (by repeat (first | (with_reducible first | exact HB.out | apply beA | apply beD | apply bed | refine beS ?_ GE117.out | refine beS ?_ GE132.out) | exact HB.out)) hb); clear BK117; clear BK132; clear HB; have BK117 := n0_; have BK132 := n1_; have HB := n2_; clear n0_ n1_ n2_; (try clear hb); (try clear hb2); (try clear hk); (try clear hi); obtain ⟨hcz26_0, hcz26_1, hcz26_2, hcz26_3, hcz26_4, hcz26_5, hcz26_6, hcz26_7, hcz26_8, hcz26_9, hcz26_10, hcz26_11, hcz26_12, hcz26_13⟩ := cz14 BK117.out; have hfz26_0 := blk_frozen BK117.out; obtain ⟨hcz27_0, hcz27_1, hcz27_2, hcz27_3, hcz27_4, hcz27_5, hcz27_6, hcz27_7, hcz27_8, hcz27_9, hcz27_10, hcz27_11, hcz27_12, hcz27_13⟩ := cz14 BK132.out; have hfz27_0 := blk_frozen BK132.out))
                go_ret
                exact ⟨by first | rfl | (simp <;> rfl) | (simp [*] <;> rfl), by repeat (first | (with_reducible first | exact HB.out | apply beA | apply beD | apply bed | refine beS ?_ GE117.out | refine beS ?_ GE132.out) | exact HB.out)⟩
            rw [if_neg c22] at H
            have c22b0 : decide (t116 < 0) = false := decide_eq_false c22
            clear c22
            by_cases c28 : t116 > 100000
            · as_aux_lemma =>
                rw [if_pos c28] at H
                have c28b0 : decide (100000 < t116) = true := decide_eq_true c28
                clear c28
                obtain rfl := Option.some.inj H
                have hnb29 := NB117_132.out
                have hnc29 := NB132_117.out
                obtain ⟨hcz30_0, hcz30_1, hcz30_2, hcz30_3, hcz30_4, hcz30_5, hcz30_6, hcz30_7, hcz30_8, hcz30_9, hcz30_10, hcz30_11, hcz30_12, hcz30_13⟩ := cz14 BK117.out
                have hfz30_0 := blk_frozen BK117.out
                go_wp2_with (first | ((with_reducible refine gate_callee (f := 49) rfl ?_); refine goesL_ (some 22) rfl rfl Try.func49 (by kernel_rfl) rfl #[.agg #[.int .i64 t102, .int .i64 t103, .int .i64 t104, .int .i64 t105, .bool t106, .int .i64 t107, .int .i64 t108, .int .i64 t109, .int .i64 t110, .int .i64 t111, .int .i64 t112, .int .i64 t113, .int .i64 t114, .int .i64 t115]] rfl (by (try simp only [List.map_toArray, List.map_cons, List.map_nil]); first | done | rfl | (simp only [List.length_drop, List.length_take]; rfl)) ?_; (with_reducible refine (spec_TaskOk.calls t102 t103 t104 t105 t106 t107 t108 t109 t110 t111 t112 t113 t114 t115 true _ A19.out).mono ?_); rintro e w31 ⟨rfl, hb⟩; refine ⟨_, rfl, ?_⟩; have n0_ := aM (blk_below (g := gb117) (o := .cells (tk14 t102 t103 t104 t105 t106 t107 t108 t109 t110 t111 t112 t113 t114 t115) 24 (0, 0)) (by (with_reducible repeat (first | apply bkD | apply bkd | apply bkA)); exact BK117.out) hb); have n1_ := aM (blk_below (g := gb132) (o := .cells (tk14 t118 t119 t120 t121 t122 t123 t124 t125 t126 t127 t128 t129 t130 t131) 24 (0, 0)) (by (with_reducible repeat (first | apply bkD | apply bkd | apply bkA)); exact BK132.out) hb); have n2_ := aM (below_step (by repeat (first | (with_reducible first | exact HB.out | apply beA | apply beD | apply bed | refine beS ?_ GE117.out | refine beS ?_ GE132.out) | exact HB.out)) hb); clear BK117; clear BK132; clear HB; have BK117 := n0_; have BK132 := n1_; have HB := n2_; clear n0_ n1_ n2_; (try clear hb); (try clear hb2); (try clear hk); (try clear hi); obtain ⟨hcz32_0, hcz32_1, hcz32_2, hcz32_3, hcz32_4, hcz32_5, hcz32_6, hcz32_7, hcz32_8, hcz32_9, hcz32_10, hcz32_11, hcz32_12, hcz32_13⟩ := cz14 BK117.out; have hfz32_0 := blk_frozen BK117.out; obtain ⟨hcz33_0, hcz33_1, hcz33_2, hcz33_3, hcz33_4, hcz33_5, hcz33_6, hcz33_7, hcz33_8, hcz33_9, hcz33_10, hcz33_11, hcz33_12, hcz33_13⟩ := cz14 BK132.out; have hfz33_0 := blk_frozen BK132.out))
                go_ret
                exact ⟨by first | rfl | (simp <;> rfl) | (simp [*] <;> rfl), by repeat (first | (with_reducible first | exact HB.out | apply beA | apply beD | apply bed | refine beS ?_ GE117.out | refine beS ?_ GE132.out) | exact HB.out)⟩
            rw [if_neg c28] at H
            have c28b0 : decide (100000 < t116) = false := decide_eq_false c28
            clear c28
            by_cases c34 : t110 > t116
            · as_aux_lemma =>
                rw [if_pos c34] at H
                have c34b0 : decide (t116 < t110) = true := decide_eq_true c34
                clear c34
                obtain rfl := Option.some.inj H
                have hnb35 := NB117_132.out
                have hnc35 := NB132_117.out
                obtain ⟨hcz36_0, hcz36_1, hcz36_2, hcz36_3, hcz36_4, hcz36_5, hcz36_6, hcz36_7, hcz36_8, hcz36_9, hcz36_10, hcz36_11, hcz36_12, hcz36_13⟩ := cz14 BK117.out
                have hfz36_0 := blk_frozen BK117.out
                go_wp2_with (first | ((with_reducible refine gate_callee (f := 49) rfl ?_); refine goesL_ (some 22) rfl rfl Try.func49 (by kernel_rfl) rfl #[.agg #[.int .i64 t102, .int .i64 t103, .int .i64 t104, .int .i64 t105, .bool t106, .int .i64 t107, .int .i64 t108, .int .i64 t109, .int .i64 t110, .int .i64 t111, .int .i64 t112, .int .i64 t113, .int .i64 t114, .int .i64 t115]] rfl (by (try simp only [List.map_toArray, List.map_cons, List.map_nil]); first | done | rfl | (simp only [List.length_drop, List.length_take]; rfl)) ?_; (with_reducible refine (spec_TaskOk.calls t102 t103 t104 t105 t106 t107 t108 t109 t110 t111 t112 t113 t114 t115 true _ A19.out).mono ?_); rintro e w37 ⟨rfl, hb⟩; refine ⟨_, rfl, ?_⟩; have n0_ := aM (blk_below (g := gb117) (o := .cells (tk14 t102 t103 t104 t105 t106 t107 t108 t109 t110 t111 t112 t113 t114 t115) 24 (0, 0)) (by (with_reducible repeat (first | apply bkD | apply bkd | apply bkA)); exact BK117.out) hb); have n1_ := aM (blk_below (g := gb132) (o := .cells (tk14 t118 t119 t120 t121 t122 t123 t124 t125 t126 t127 t128 t129 t130 t131) 24 (0, 0)) (by (with_reducible repeat (first | apply bkD | apply bkd | apply bkA)); exact BK132.out) hb); have n2_ := aM (below_step (by repeat (first | (with_reducible first | exact HB.out | apply beA | apply beD | apply bed | refine beS ?_ GE117.out | refine beS ?_ GE132.out) | exact HB.out)) hb); clear BK117; clear BK132; clear HB; have BK117 := n0_; have BK132 := n1_; have HB := n2_; clear n0_ n1_ n2_; (try clear hb); (try clear hb2); (try clear hk); (try clear hi); obtain ⟨hcz38_0, hcz38_1, hcz38_2, hcz38_3, hcz38_4, hcz38_5, hcz38_6, hcz38_7, hcz38_8, hcz38_9, hcz38_10, hcz38_11, hcz38_12, hcz38_13⟩ := cz14 BK117.out; have hfz38_0 := blk_frozen BK117.out; obtain ⟨hcz39_0, hcz39_1, hcz39_2, hcz39_3, hcz39_4, hcz39_5, hcz39_6, hcz39_7, hcz39_8, hcz39_9, hcz39_10, hcz39_11, hcz39_12, hcz39_13⟩ := cz14 BK132.out; have hfz39_0 := blk_frozen BK132.out))
                go_ret
                exact ⟨by first | rfl | (simp <;> rfl) | (simp [*] <;> rfl), by repeat (first | (with_reducible first | exact HB.out | apply beA | apply beD | apply bed | refine beS ?_ GE117.out | refine beS ?_ GE132.out) | exact HB.out)⟩
            rw [if_neg c34] at H
            have c34b0 : decide (t116 < t110) = false := decide_eq_false c34
            clear c34
            by_cases c40 : t125 = t107
            · as_aux_lemma =>
                rw [if_pos c40] at H
                have c40b0 : (t125 == t107) = true := beq_iff_eq.mpr c40
                have c40b1 : (t125 != t107) = false := bne_eq_false_iff_eq.mpr c40
                clear c40
                by_cases c41 : t126 = (wrap64 (t110 + t108))
                · as_aux_lemma =>
                    rw [if_pos c41] at H
                    have c41b0 : (t126 == (wrap64 (t110 + t108))) = true := beq_iff_eq.mpr c41
                    have c41b1 : (t126 != (wrap64 (t110 + t108))) = false := bne_eq_false_iff_eq.mpr c41
                    clear c41
                    replace H := Option.bind_eq_some_iff.mp H
                    obtain ⟨t148, A420, H⟩ := H
                    replace H : (some t148) = some r := H
                    have A42 := Aside0.mk A420
                    clear A420
                    obtain rfl := Option.some.inj H
                    have hnb43 := NB117_132.out
                    have hnc43 := NB132_117.out
                    obtain ⟨hcz44_0, hcz44_1, hcz44_2, hcz44_3, hcz44_4, hcz44_5, hcz44_6, hcz44_7, hcz44_8, hcz44_9, hcz44_10, hcz44_11, hcz44_12, hcz44_13⟩ := cz14 BK117.out
                    have hfz44_0 := blk_frozen BK117.out
                    go_wp2_with (first | ((with_reducible refine gate_callee (f := 49) rfl ?_); refine goesL_ (some 22) rfl rfl Try.func49 (by kernel_rfl) rfl #[.agg #[.int .i64 t102, .int .i64 t103, .int .i64 t104, .int .i64 t105, .bool t106, .int .i64 t107, .int .i64 t108, .int .i64 t109, .int .i64 t110, .int .i64 t111, .int .i64 t112, .int .i64 t113, .int .i64 t114, .int .i64 t115]] rfl (by (try simp only [List.map_toArray, List.map_cons, List.map_nil]); first | done | rfl | (simp only [List.length_drop, List.length_take]; rfl)) ?_; (with_reducible refine (spec_TaskOk.calls t102 t103 t104 t105 t106 t107 t108 t109 t110 t111 t112 t113 t114 t115 true _ A19.out).mono ?_); rintro e w45 ⟨rfl, hb⟩; refine ⟨_, rfl, ?_⟩; have n0_ := aM (blk_below (g := gb117) (o := .cells (tk14 t102 t103 t104 t105 t106 t107 t108 t109 t110 t111 t112 t113 t114 t115) 24 (0, 0)) (by (with_reducible repeat (first | apply bkD | apply bkd | apply bkA)); exact BK117.out) hb); have n1_ := aM (blk_below (g := gb132) (o := .cells (tk14 t118 t119 t120 t121 t122 t123 t124 t125 t126 t127 t128 t129 t130 t131) 24 (0, 0)) (by (with_reducible repeat (first | apply bkD | apply bkd | apply bkA)); exact BK132.out) hb); have n2_ := aM (below_step (by repeat (first | (with_reducible first | exact HB.out | apply beA | apply beD | apply bed | refine beS ?_ GE117.out | refine beS ?_ GE132.out) | exact HB.out)) hb); clear BK117; clear BK132; clear HB; have BK117 := n0_; have BK132 := n1_; have HB := n2_; clear n0_ n1_ n2_; (try clear hb); (try clear hb2); (try clear hk); (try clear hi); obtain ⟨hcz46_0, hcz46_1, hcz46_2, hcz46_3, hcz46_4, hcz46_5, hcz46_6, hcz46_7, hcz46_8, hcz46_9, hcz46_10, hcz46_11, hcz46_12, hcz46_13⟩ := cz14 BK117.out; have hfz46_0 := blk_frozen BK117.out; obtain ⟨hcz47_0, hcz47_1, hcz47_2, hcz47_3, hcz47_4, hcz47_5, hcz47_6, hcz47_7, hcz47_8, hcz47_9, hcz47_10, hcz47_11, hcz47_12, hcz47_13⟩ := cz14 BK132.out; have hfz47_0 := blk_frozen BK132.out) | (go_at_call 29; (with_reducible refine (impl_TaskOk.calls t118 t119 t120 t121 t122 t123 t124 t125 t126 t127 t128 t129 t130 t131 t148 _ A42.out).mono ?_); rintro e w48 ⟨rfl, hb⟩; have n0_ := aM (blk_below (g := gb117) (o := .cells (tk14 t102 t103 t104 t105 t106 t107 t108 t109 t110 t111 t112 t113 t114 t115) 24 (0, 0)) (by (with_reducible repeat (first | apply bkD | apply bkd | apply bkA)); exact BK117.out) hb); have n1_ := aM (blk_below (g := gb132) (o := .cells (tk14 t118 t119 t120 t121 t122 t123 t124 t125 t126 t127 t128 t129 t130 t131) 24 (0, 0)) (by (with_reducible repeat (first | apply bkD | apply bkd | apply bkA)); exact BK132.out) hb); have n2_ := aM (below_step (by repeat (first | (with_reducible first | exact HB.out | apply beA | apply beD | apply bed | refine beS ?_ GE117.out | refine beS ?_ GE132.out) | exact HB.out)) hb); clear BK117; clear BK132; clear HB; have BK117 := n0_; have BK132 := n1_; have HB := n2_; clear n0_ n1_ n2_; (try clear hb); (try clear hb2); (try clear hk); (try clear hi)))
                    go_ret
                    exact ⟨by first | rfl | (simp <;> rfl) | (simp [*] <;> rfl), by repeat (first | (with_reducible first | exact HB.out | apply beA | apply beD | apply bed | refine beS ?_ GE117.out | refine beS ?_ GE132.out) | exact HB.out)⟩
                rw [if_neg c41] at H
                have c41b0 : (t126 == (wrap64 (t110 + t108))) = false := beq_eq_false_iff_ne.mpr c41
                have c41b1 : (t126 != (wrap64 (t110 + t108))) = true := bne_iff_ne.mpr c41
                obtain rfl := Option.some.inj H
                have hnb49 := NB117_132.out
                have hnc49 := NB132_117.out
                obtain ⟨hcz50_0, hcz50_1, hcz50_2, hcz50_3, hcz50_4, hcz50_5, hcz50_6, hcz50_7, hcz50_8, hcz50_9, hcz50_10, hcz50_11, hcz50_12, hcz50_13⟩ := cz14 BK117.out
                have hfz50_0 := blk_frozen BK117.out
                go_wp2_with (first | ((with_reducible refine gate_callee (f := 49) rfl ?_); refine goesL_ (some 22) rfl rfl Try.func49 (by kernel_rfl) rfl #[.agg #[.int .i64 t102, .int .i64 t103, .int .i64 t104, .int .i64 t105, .bool t106, .int .i64 t107, .int .i64 t108, .int .i64 t109, .int .i64 t110, .int .i64 t111, .int .i64 t112, .int .i64 t113, .int .i64 t114, .int .i64 t115]] rfl (by (try simp only [List.map_toArray, List.map_cons, List.map_nil]); first | done | rfl | (simp only [List.length_drop, List.length_take]; rfl)) ?_; (with_reducible refine (spec_TaskOk.calls t102 t103 t104 t105 t106 t107 t108 t109 t110 t111 t112 t113 t114 t115 true _ A19.out).mono ?_); rintro e w51 ⟨rfl, hb⟩; refine ⟨_, rfl, ?_⟩; have n0_ := aM (blk_below (g := gb117) (o := .cells (tk14 t102 t103 t104 t105 t106 t107 t108 t109 t110 t111 t112 t113 t114 t115) 24 (0, 0)) (by (with_reducible repeat (first | apply bkD | apply bkd | apply bkA)); exact BK117.out) hb); have n1_ := aM (blk_below (g := gb132) (o := .cells (tk14 t118 t119 t120 t121 t122 t123 t124 t125 t126 t127 t128 t129 t130 t131) 24 (0, 0)) (by (with_reducible repeat (first | apply bkD | apply bkd | apply bkA)); exact BK132.out) hb); have n2_ := aM (below_step (by repeat (first | (with_reducible first | exact HB.out | apply beA | apply beD | apply bed | refine beS ?_ GE117.out | refine beS ?_ GE132.out) | exact HB.out)) hb); clear BK117; clear BK132; clear HB; have BK117 := n0_; have BK132 := n1_; have HB := n2_; clear n0_ n1_ n2_; (try clear hb); (try clear hb2); (try clear hk); (try clear hi); obtain ⟨hcz52_0, hcz52_1, hcz52_2, hcz52_3, hcz52_4, hcz52_5, hcz52_6, hcz52_7, hcz52_8, hcz52_9, hcz52_10, hcz52_11, hcz52_12, hcz52_13⟩ := cz14 BK117.out; have hfz52_0 := blk_frozen BK117.out; obtain ⟨hcz53_0, hcz53_1, hcz53_2, hcz53_3, hcz53_4, hcz53_5, hcz53_6, hcz53_7, hcz53_8, hcz53_9, hcz53_10, hcz53_11, hcz53_12, hcz53_13⟩ := cz14 BK132.out; have hfz53_0 := blk_frozen BK132.out))
                go_ret
                exact ⟨by first | rfl | (simp <;> rfl) | (simp [*] <;> rfl), by repeat (first | (with_reducible first | exact HB.out | apply beA | apply beD | apply bed | refine beS ?_ GE117.out | refine beS ?_ GE132.out) | exact HB.out)⟩
            rw [if_neg c40] at H
            have c40b0 : (t125 == t107) = false := beq_eq_false_iff_ne.mpr c40
            have c40b1 : (t125 != t107) = true := bne_iff_ne.mpr c40
            obtain rfl := Option.some.inj H
            have hnb54 := NB117_132.out
            have hnc54 := NB132_117.out
            obtain ⟨hcz55_0, hcz55_1, hcz55_2, hcz55_3, hcz55_4, hcz55_5, hcz55_6, hcz55_7, hcz55_8, hcz55_9, hcz55_10, hcz55_11, hcz55_12, hcz55_13⟩ := cz14 BK117.out
            have hfz55_0 := blk_frozen BK117.out
            go_wp2_with (first | ((with_reducible refine gate_callee (f := 49) rfl ?_); refine goesL_ (some 22) rfl rfl Try.func49 (by kernel_rfl) rfl #[.agg #[.int .i64 t102, .int .i64 t103, .int .i64 t104, .int .i64 t105, .bool t106, .int .i64 t107, .int .i64 t108, .int .i64 t109, .int .i64 t110, .int .i64 t111, .int .i64 t112, .int .i64 t113, .int .i64 t114, .int .i64 t115]] rfl (by (try simp only [List.map_toArray, List.map_cons, List.map_nil]); first | done | rfl | (simp only [List.length_drop, List.length_take]; rfl)) ?_; (with_reducible refine (spec_TaskOk.calls t102 t103 t104 t105 t106 t107 t108 t109 t110 t111 t112 t113 t114 t115 true _ A19.out).mono ?_); rintro e w56 ⟨rfl, hb⟩; refine ⟨_, rfl, ?_⟩; have n0_ := aM (blk_below (g := gb117) (o := .cells (tk14 t102 t103 t104 t105 t106 t107 t108 t109 t110 t111 t112 t113 t114 t115) 24 (0, 0)) (by (with_reducible repeat (first | apply bkD | apply bkd | apply bkA)); exact BK117.out) hb); have n1_ := aM (blk_below (g := gb132) (o := .cells (tk14 t118 t119 t120 t121 t122 t123 t124 t125 t126 t127 t128 t129 t130 t131) 24 (0, 0)) (by (with_reducible repeat (first | apply bkD | apply bkd | apply bkA)); exact BK132.out) hb); have n2_ := aM (below_step (by repeat (first | (with_reducible first | exact HB.out | apply beA | apply beD | apply bed | refine beS ?_ GE117.out | refine beS ?_ GE132.out) | exact HB.out)) hb); clear BK117; clear BK132; clear HB; have BK117 := n0_; have BK132 := n1_; have HB := n2_; clear n0_ n1_ n2_; (try clear hb); (try clear hb2); (try clear hk); (try clear hi); obtain ⟨hcz57_0, hcz57_1, hcz57_2, hcz57_3, hcz57_4, hcz57_5, hcz57_6, hcz57_7, hcz57_8, hcz57_9, hcz57_10, hcz57_11, hcz57_12, hcz57_13⟩ := cz14 BK117.out; have hfz57_0 := blk_frozen BK117.out; obtain ⟨hcz58_0, hcz58_1, hcz58_2, hcz58_3, hcz58_4, hcz58_5, hcz58_6, hcz58_7, hcz58_8, hcz58_9, hcz58_10, hcz58_11, hcz58_12, hcz58_13⟩ := cz14 BK132.out; have hfz58_0 := blk_frozen BK132.out))
            go_ret
            exact ⟨by first | rfl | (simp <;> rfl) | (simp [*] <;> rfl), by repeat (first | (with_reducible first | exact HB.out | apply beA | apply beD | apply bed | refine beS ?_ GE117.out | refine beS ?_ GE132.out) | exact HB.out)⟩
        rw [if_neg c21] at H
        have c21b0 : (t103 == 1) = false := beq_eq_false_iff_ne.mpr c21
        have c21b1 : (t103 != 1) = true := bne_iff_ne.mpr c21
        obtain rfl := Option.some.inj H
        have hnb59 := NB117_132.out
        have hnc59 := NB132_117.out
        obtain ⟨hcz60_0, hcz60_1, hcz60_2, hcz60_3, hcz60_4, hcz60_5, hcz60_6, hcz60_7, hcz60_8, hcz60_9, hcz60_10, hcz60_11, hcz60_12, hcz60_13⟩ := cz14 BK117.out
        have hfz60_0 := blk_frozen BK117.out
        go_wp2_with (first | ((with_reducible refine gate_callee (f := 49) rfl ?_); refine goesL_ (some 22) rfl rfl Try.func49 (by kernel_rfl) rfl #[.agg #[.int .i64 t102, .int .i64 t103, .int .i64 t104, .int .i64 t105, .bool t106, .int .i64 t107, .int .i64 t108, .int .i64 t109, .int .i64 t110, .int .i64 t111, .int .i64 t112, .int .i64 t113, .int .i64 t114, .int .i64 t115]] rfl (by (try simp only [List.map_toArray, List.map_cons, List.map_nil]); first | done | rfl | (simp only [List.length_drop, List.length_take]; rfl)) ?_; (with_reducible refine (spec_TaskOk.calls t102 t103 t104 t105 t106 t107 t108 t109 t110 t111 t112 t113 t114 t115 true _ A19.out).mono ?_); rintro e w61 ⟨rfl, hb⟩; refine ⟨_, rfl, ?_⟩; have n0_ := aM (blk_below (g := gb117) (o := .cells (tk14 t102 t103 t104 t105 t106 t107 t108 t109 t110 t111 t112 t113 t114 t115) 24 (0, 0)) (by (with_reducible repeat (first | apply bkD | apply bkd | apply bkA)); exact BK117.out) hb); have n1_ := aM (blk_below (g := gb132) (o := .cells (tk14 t118 t119 t120 t121 t122 t123 t124 t125 t126 t127 t128 t129 t130 t131) 24 (0, 0)) (by (with_reducible repeat (first | apply bkD | apply bkd | apply bkA)); exact BK132.out) hb); have n2_ := aM (below_step (by repeat (first | (with_reducible first | exact HB.out | apply beA | apply beD | apply bed | refine beS ?_ GE117.out | refine beS ?_ GE132.out) | exact HB.out)) hb); clear BK117; clear BK132; clear HB; have BK117 := n0_; have BK132 := n1_; have HB := n2_; clear n0_ n1_ n2_; (try clear hb); (try clear hb2); (try clear hk); (try clear hi); obtain ⟨hcz62_0, hcz62_1, hcz62_2, hcz62_3, hcz62_4, hcz62_5, hcz62_6, hcz62_7, hcz62_8, hcz62_9, hcz62_10, hcz62_11, hcz62_12, hcz62_13⟩ := cz14 BK117.out; have hfz62_0 := blk_frozen BK117.out; obtain ⟨hcz63_0, hcz63_1, hcz63_2, hcz63_3, hcz63_4, hcz63_5, hcz63_6, hcz63_7, hcz63_8, hcz63_9, hcz63_10, hcz63_11, hcz63_12, hcz63_13⟩ := cz14 BK132.out; have hfz63_0 := blk_frozen BK132.out))
        go_ret
        exact ⟨by first | rfl | (simp <;> rfl) | (simp [*] <;> rfl), by repeat (first | (with_reducible first | exact HB.out | apply beA | apply beD | apply bed | refine beS ?_ GE117.out | refine beS ?_ GE132.out) | exact HB.out)⟩
      replace c20 := Bool.eq_false_iff.mpr c20
      subst c20
      have H1 : (some (t118 == t102 && (t119 == t103 && (t120 == t104 && (t121 == t105 && (t122 == t106 && (t123 == t107 && (t124 == t108 && (t125 == t109 && (t126 == t110 && (t127 == t111 && (t128 == t112 && (t129 == t113 && (t130 == t114 && (t131 == t115))))))))))))))) = some r := by rw [if_neg (show ¬ (false = true) by decide)] at H; exact H
      clear H
      have H := H1
      clear H1
      obtain rfl := Option.some.inj H
      have hnb64 := NB117_132.out
      have hnc64 := NB132_117.out
      obtain ⟨hcz65_0, hcz65_1, hcz65_2, hcz65_3, hcz65_4, hcz65_5, hcz65_6, hcz65_7, hcz65_8, hcz65_9, hcz65_10, hcz65_11, hcz65_12, hcz65_13⟩ := cz14 BK117.out
      have hfz65_0 := blk_frozen BK117.out
      go_wp2_with (first | ((with_reducible refine gate_callee (f := 49) rfl ?_); refine goesL_ (some 22) rfl rfl Try.func49 (by kernel_rfl) rfl #[.agg #[.int .i64 t102, .int .i64 t103, .int .i64 t104, .int .i64 t105, .bool t106, .int .i64 t107, .int .i64 t108, .int .i64 t109, .int .i64 t110, .int .i64 t111, .int .i64 t112, .int .i64 t113, .int .i64 t114, .int .i64 t115]] rfl (by (try simp only [List.map_toArray, List.map_cons, List.map_nil]); first | done | rfl | (simp only [List.length_drop, List.length_take]; rfl)) ?_; (with_reducible refine (spec_TaskOk.calls t102 t103 t104 t105 t106 t107 t108 t109 t110 t111 t112 t113 t114 t115 false _ A19.out).mono ?_); rintro e w66 ⟨rfl, hb⟩; refine ⟨_, rfl, ?_⟩; have n0_ := aM (blk_below (g := gb117) (o := .cells (tk14 t102 t103 t104 t105 t106 t107 t108 t109 t110 t111 t112 t113 t114 t115) 24 (0, 0)) (by (with_reducible repeat (first | apply bkD | apply bkd | apply bkA)); exact BK117.out) hb); have n1_ := aM (blk_below (g := gb132) (o := .cells (tk14 t118 t119 t120 t121 t122 t123 t124 t125 t126 t127 t128 t129 t130 t131) 24 (0, 0)) (by (with_reducible repeat (first | apply bkD | apply bkd | apply bkA)); exact BK132.out) hb); have n2_ := aM (below_step (by repeat (first | (with_reducible first | exact HB.out | apply beA | apply beD | apply bed | refine beS ?_ GE117.out | refine beS ?_ GE132.out) | exact HB.out)) hb); clear BK117; clear BK132; clear HB; have BK117 := n0_; have BK132 := n1_; have HB := n2_; clear n0_ n1_ n2_; (try clear hb); (try clear hb2); (try clear hk); (try clear hi); obtain ⟨hcz67_0, hcz67_1, hcz67_2, hcz67_3, hcz67_4, hcz67_5, hcz67_6, hcz67_7, hcz67_8, hcz67_9, hcz67_10, hcz67_11, hcz67_12, hcz67_13⟩ := cz14 BK132.out; have hfz67_0 := blk_frozen BK132.out; obtain ⟨hcz68_0, hcz68_1, hcz68_2, hcz68_3, hcz68_4, hcz68_5, hcz68_6, hcz68_7, hcz68_8, hcz68_9, hcz68_10, hcz68_11, hcz68_12, hcz68_13⟩ := cz14 BK117.out; have hfz68_0 := blk_frozen BK117.out))
      go_ret
      exact ⟨by first | rfl | (simp <;> rfl) | (simp [*] <;> rfl), by repeat (first | (with_reducible first | exact HB.out | apply beA | apply beD | apply bed | refine beS ?_ GE117.out | refine beS ?_ GE132.out) | exact HB.out)⟩

/-- THE ONE PURE STATEMENT of laws_FnRenewed: yours. -/
def laws_FnRenewed.Pure : Prop := ∀ (l0 : List Int), l0.length ≤ maxLen → l0.length * 1 ≤ 140737488351232 → (∀ x ∈ l0, (Lit.int .u8 x).wf = true) → ∃ k, laws_FnRenewed.f k l0 = some true
theorem laws_FnRenewed.walk (P : laws_FnRenewed.Pure) (a0 : Option Addr) (len0 cap0 : Nat) (z0 : List Int) (w : World) (w0 : (a0 = none ∧ len0 = 0 ∧ cap0 = 0 ∧ z0 = []) ∨ ∃ x, a0 = some x ∧ len0 ≤ cap0 ∧ cap0 ≤ maxLen ∧ z0.length = cap0 ∧ (∀ i, i < z0.length → w.cell? (x.add i) = some (.int .u8 (z0.getD i 0))) ∧ ∀ n ∈ z0, (Lit.int .u8 n).wf = true) (y0 : len0 * 1 ≤ 140737488351232) :
    Calls Try.prog 10 #[.slice a0 len0 cap0] w fun e w' => e = .returned (.bool true) ∧ Below w.heap.size w w' := by
  obtain ⟨l0, rfl, hr0, hm0, hw0, hc0⟩ := ReadsInt.ofRowC w0
  obtain ⟨k, h⟩ := P l0 hm0 y0 hw0
  refine (laws_FnRenewed.calls k _ _ l0 true w (Kd.C_of_reads (d := (0 : Int)) (h1 := fun _ => rfl) hr0) hc0 h).mono ?_
  rintro e w' ⟨rfl, hd⟩
  exact ⟨rfl, hd⟩

end Go.Proofs.Ytnokdjkkgcpbdab.Print
