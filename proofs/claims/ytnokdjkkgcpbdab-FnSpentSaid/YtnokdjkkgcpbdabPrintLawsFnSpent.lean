/- Go functions as plain Lean functions, and that the Go code answers just as these, wherever they answer. Conditions: those of each theorem. Written by a program of this session (wip/patch.py). -/
import Derived.Test.YtnokdjkkgcpbdabPrint0
import Derived.Test.YtnokdjkkgcpbdabPrintEq
import Derived.Test.YtnokdjkkgcpbdabPrintEqb
import Derived.Test.YtnokdjkkgcpbdabPrintImplDueShare
import Derived.Test.YtnokdjkkgcpbdabPrintLawsBig
import Derived.Test.YtnokdjkkgcpbdabPrintSpecDrawDueSpend
import Derived.Test.YtnokdjkkgcpbdabPrintSpecDueSpend
namespace Go.Proofs.Ytnokdjkkgcpbdab.Print
open Go.RowKit Go.Proofs.Ytnokdjkkgcpbdab.Base Go.Proofs.YtnokdjkkgcpbdabW.PrintWords Go.Proofs.YtnokdjkkgcpbdabW.PrintLast Go.Proofs.YtnokdjkkgcpbdabW.PrintMore
attribute [local go_sem] max2_int min2_int max_two min_two max_three min_three max_four min_four   -- for this text's walks alone
set_option linter.unusedVariables false
set_option linter.unusedSimpArgs false

attribute [local go_sem high] eqA24 eqA53
/-! ### laws_FnSpent: function 9 -/
mutual
def laws_FnSpent.j0 : Nat → Bool → Bool → Int → Int → Int → Int → Bool → Int → Int → Int → Int → Int → Int → Int → Int → Int → Int → Int → Int → Int → Bool → Int → Int → Int → Int → Int → Int → Int → Int → Int → Int → Int → Option (Bool)
  | 0, _, _, _, _, _, _, _, _, _, _, _, _, _, _, _, _, _, _, _, _, _, _, _, _, _, _, _, _, _, _, _, _ => none
  | k + 1, x6, x35, x117000, x117001, x117002, x117003, x117004, x117005, x117006, x117007, x117008, x117009, x117010, x117011, x117012, x117013, x132000, x132001, x132002, x132003, x132004, x132005, x132006, x132007, x132008, x132009, x132010, x132011, x132012, x132013, x136000, x136001 => if x35 = true then (some false) else (if x6 = true then (laws_FnSpent.l0 k x117007 0 x117000 x117001 x117002 x117003 x117004 x117005 x117006 x117007 x117008 x117009 x117010 x117011 x117012 x117013 x132000 x132001 x132002 x132003 x132004 x132005 x132006 x132007 x132008 x132009 x132010 x132011 x132012 x132013 x136000 x136001) else (if (x132000 == x117000 && (x132001 == x117001 && (x132002 == x117002 && (x132003 == x117003 && (x132004 == x117004 && (x132005 == x117005 && (x132006 == x117006 && (x132007 == x117007 && (x132008 == x117008 && (x132009 == x117009 && (x132010 == x117010 && (x132011 == x117011 && (x132012 == x117012 && (x132013 == x117013)))))))))))))) = true then (some (x136000 == 0 && (x136001 == 0))) else (some false)))
def laws_FnSpent.l0 : Nat → Int → Int → Int → Int → Int → Int → Bool → Int → Int → Int → Int → Int → Int → Int → Int → Int → Int → Int → Int → Int → Bool → Int → Int → Int → Int → Int → Int → Int → Int → Int → Int → Int → Option (Bool)
  | 0, _, _, _, _, _, _, _, _, _, _, _, _, _, _, _, _, _, _, _, _, _, _, _, _, _, _, _, _, _, _, _, _ => none
  | k + 1, x9, x10, x117000, x117001, x117002, x117003, x117004, x117005, x117006, x117007, x117008, x117009, x117010, x117011, x117012, x117013, x132000, x132001, x132002, x132003, x132004, x132005, x132006, x132007, x132008, x132009, x132010, x132011, x132012, x132013, x136000, x136001 => if x10 < (wrap64 (x117005 + 1)) then ((impl_DueSpend.f x117000 x117001 x117002 x117003 x117004 x117005 x117006 x117007 x117008 x117009 x117010 x117011 x117012 x117013).bind fun bt154 => (laws_FnSpent.l0 k x9 (wrap64 (x10 + 1)) bt154.1 bt154.2.1 bt154.2.2.1 bt154.2.2.2.1 bt154.2.2.2.2.1 bt154.2.2.2.2.2.1 bt154.2.2.2.2.2.2.1 bt154.2.2.2.2.2.2.2.1 bt154.2.2.2.2.2.2.2.2.1 bt154.2.2.2.2.2.2.2.2.2.1 bt154.2.2.2.2.2.2.2.2.2.2.1 bt154.2.2.2.2.2.2.2.2.2.2.2.1 bt154.2.2.2.2.2.2.2.2.2.2.2.2.1 bt154.2.2.2.2.2.2.2.2.2.2.2.2.2 x132000 x132001 x132002 x132003 x132004 x132005 x132006 x132007 x132008 x132009 x132010 x132011 x132012 x132013 x136000 x136001)) else (if x136000 = x132005 then (if x136001 = x132006 then (if x9 = 0 then (if x132007 = 0 then (some (x117007 == 0)) else (if x132007 = (wrap64 (x9 - 1)) then (some (x117007 == 0)) else (some false))) else (if x132007 = (wrap64 (x9 - 1)) then (some (x117007 == 0)) else (some false))) else (some false)) else (some false))
end
def laws_FnSpent.f (k : Nat) (l0 : List Int) : Option (Bool) := (laws_big.f l0).bind fun t101 => (if t101 = true then (some true) else ((spec_DrawDueSpend.f k l0).bind fun bt102 => ((impl_DueSpend.f bt102.1 bt102.2.1 bt102.2.2.1 bt102.2.2.2.1 bt102.2.2.2.2.1 bt102.2.2.2.2.2.1 bt102.2.2.2.2.2.2.1 bt102.2.2.2.2.2.2.2.1 bt102.2.2.2.2.2.2.2.2.1 bt102.2.2.2.2.2.2.2.2.2.1 bt102.2.2.2.2.2.2.2.2.2.2.1 bt102.2.2.2.2.2.2.2.2.2.2.2.1 bt102.2.2.2.2.2.2.2.2.2.2.2.2.1 bt102.2.2.2.2.2.2.2.2.2.2.2.2.2).bind fun bt117 => ((impl_DueShare.f bt102.1 bt102.2.1 bt102.2.2.1 bt102.2.2.2.1 bt102.2.2.2.2.1 bt102.2.2.2.2.2.1 bt102.2.2.2.2.2.2.1 bt102.2.2.2.2.2.2.2.1 bt102.2.2.2.2.2.2.2.2.1 bt102.2.2.2.2.2.2.2.2.2.1 bt102.2.2.2.2.2.2.2.2.2.2.1 bt102.2.2.2.2.2.2.2.2.2.2.2.1 bt102.2.2.2.2.2.2.2.2.2.2.2.2.1 bt102.2.2.2.2.2.2.2.2.2.2.2.2.2).bind fun bt132 => ((spec_DueShare.f bt102.1 bt102.2.1 bt102.2.2.1 bt102.2.2.2.1 bt102.2.2.2.2.1 bt102.2.2.2.2.2.1 bt102.2.2.2.2.2.2.1 bt102.2.2.2.2.2.2.2.1 bt102.2.2.2.2.2.2.2.2.1 bt102.2.2.2.2.2.2.2.2.2.1 bt102.2.2.2.2.2.2.2.2.2.2.1 bt102.2.2.2.2.2.2.2.2.2.2.2.1 bt102.2.2.2.2.2.2.2.2.2.2.2.2.1 bt102.2.2.2.2.2.2.2.2.2.2.2.2.2).bind fun bt136 => ((spec_DueSpend.f bt102.1 bt102.2.1 bt102.2.2.1 bt102.2.2.2.1 bt102.2.2.2.2.1 bt102.2.2.2.2.2.1 bt102.2.2.2.2.2.2.1 bt102.2.2.2.2.2.2.2.1 bt102.2.2.2.2.2.2.2.2.1 bt102.2.2.2.2.2.2.2.2.2.1 bt102.2.2.2.2.2.2.2.2.2.2.1 bt102.2.2.2.2.2.2.2.2.2.2.2.1 bt102.2.2.2.2.2.2.2.2.2.2.2.2.1 bt102.2.2.2.2.2.2.2.2.2.2.2.2.2).bind fun bt140 => (if (!(bt117.1 == bt140.1) || (!(bt117.2.1 == bt140.2.1) || (!(bt117.2.2.1 == bt140.2.2.1) || (!(bt117.2.2.2.1 == bt140.2.2.2.1) || (!(bt117.2.2.2.2.1 == bt140.2.2.2.2.1) || (!(bt117.2.2.2.2.2.1 == bt140.2.2.2.2.2.1) || (!(bt117.2.2.2.2.2.2.1 == bt140.2.2.2.2.2.2.1) || (!(bt117.2.2.2.2.2.2.2.1 == bt140.2.2.2.2.2.2.2.1) || (!(bt117.2.2.2.2.2.2.2.2.1 == bt140.2.2.2.2.2.2.2.2.1) || (!(bt117.2.2.2.2.2.2.2.2.2.1 == bt140.2.2.2.2.2.2.2.2.2.1) || (!(bt117.2.2.2.2.2.2.2.2.2.2.1 == bt140.2.2.2.2.2.2.2.2.2.2.1) || (!(bt117.2.2.2.2.2.2.2.2.2.2.2.1 == bt140.2.2.2.2.2.2.2.2.2.2.2.1) || (!(bt117.2.2.2.2.2.2.2.2.2.2.2.2.1 == bt140.2.2.2.2.2.2.2.2.2.2.2.2.1) || (!(bt117.2.2.2.2.2.2.2.2.2.2.2.2.2 == bt140.2.2.2.2.2.2.2.2.2.2.2.2.2))))))))))))))) = true then (laws_FnSpent.j0 k bt132.2.2 true bt102.1 bt102.2.1 bt102.2.2.1 bt102.2.2.2.1 bt102.2.2.2.2.1 bt102.2.2.2.2.2.1 bt102.2.2.2.2.2.2.1 bt102.2.2.2.2.2.2.2.1 bt102.2.2.2.2.2.2.2.2.1 bt102.2.2.2.2.2.2.2.2.2.1 bt102.2.2.2.2.2.2.2.2.2.2.1 bt102.2.2.2.2.2.2.2.2.2.2.2.1 bt102.2.2.2.2.2.2.2.2.2.2.2.2.1 bt102.2.2.2.2.2.2.2.2.2.2.2.2.2 bt117.1 bt117.2.1 bt117.2.2.1 bt117.2.2.2.1 bt117.2.2.2.2.1 bt117.2.2.2.2.2.1 bt117.2.2.2.2.2.2.1 bt117.2.2.2.2.2.2.2.1 bt117.2.2.2.2.2.2.2.2.1 bt117.2.2.2.2.2.2.2.2.2.1 bt117.2.2.2.2.2.2.2.2.2.2.1 bt117.2.2.2.2.2.2.2.2.2.2.2.1 bt117.2.2.2.2.2.2.2.2.2.2.2.2.1 bt117.2.2.2.2.2.2.2.2.2.2.2.2.2 bt132.1 bt132.2.1) else (laws_FnSpent.j0 k bt132.2.2 (bt132.2.2 != bt136.2.2) bt102.1 bt102.2.1 bt102.2.2.1 bt102.2.2.2.1 bt102.2.2.2.2.1 bt102.2.2.2.2.2.1 bt102.2.2.2.2.2.2.1 bt102.2.2.2.2.2.2.2.1 bt102.2.2.2.2.2.2.2.2.1 bt102.2.2.2.2.2.2.2.2.2.1 bt102.2.2.2.2.2.2.2.2.2.2.1 bt102.2.2.2.2.2.2.2.2.2.2.2.1 bt102.2.2.2.2.2.2.2.2.2.2.2.2.1 bt102.2.2.2.2.2.2.2.2.2.2.2.2.2 bt117.1 bt117.2.1 bt117.2.2.1 bt117.2.2.2.1 bt117.2.2.2.2.1 bt117.2.2.2.2.2.1 bt117.2.2.2.2.2.2.1 bt117.2.2.2.2.2.2.2.1 bt117.2.2.2.2.2.2.2.2.1 bt117.2.2.2.2.2.2.2.2.2.1 bt117.2.2.2.2.2.2.2.2.2.2.1 bt117.2.2.2.2.2.2.2.2.2.2.2.1 bt117.2.2.2.2.2.2.2.2.2.2.2.2.1 bt117.2.2.2.2.2.2.2.2.2.2.2.2.2 bt132.1 bt132.2.1))))))))
theorem laws_FnSpent.mono_l : ∀ k, (∀ y0 y1 y2 y3 y4 y5 y6 y7 y8 y9 y10 y11 y12 y13 y14 y15 y16 y17 y18 y19 y20 y21 y22 y23 y24 y25 y26 y27 y28 y29 y30 y31, LeO (laws_FnSpent.j0 k y0 y1 y2 y3 y4 y5 y6 y7 y8 y9 y10 y11 y12 y13 y14 y15 y16 y17 y18 y19 y20 y21 y22 y23 y24 y25 y26 y27 y28 y29 y30 y31) (laws_FnSpent.j0 (k + 1) y0 y1 y2 y3 y4 y5 y6 y7 y8 y9 y10 y11 y12 y13 y14 y15 y16 y17 y18 y19 y20 y21 y22 y23 y24 y25 y26 y27 y28 y29 y30 y31)) ∧ (∀ y0 y1 y2 y3 y4 y5 y6 y7 y8 y9 y10 y11 y12 y13 y14 y15 y16 y17 y18 y19 y20 y21 y22 y23 y24 y25 y26 y27 y28 y29 y30 y31, LeO (laws_FnSpent.l0 k y0 y1 y2 y3 y4 y5 y6 y7 y8 y9 y10 y11 y12 y13 y14 y15 y16 y17 y18 y19 y20 y21 y22 y23 y24 y25 y26 y27 y28 y29 y30 y31) (laws_FnSpent.l0 (k + 1) y0 y1 y2 y3 y4 y5 y6 y7 y8 y9 y10 y11 y12 y13 y14 y15 y16 y17 y18 y19 y20 y21 y22 y23 y24 y25 y26 y27 y28 y29 y30 y31))
  | 0 => ⟨fun _ _ _ _ _ _ _ _ _ _ _ _ _ _ _ _ _ _ _ _ _ _ _ _ _ _ _ _ _ _ _ _ r h => by simp [laws_FnSpent.j0] at h, fun _ _ _ _ _ _ _ _ _ _ _ _ _ _ _ _ _ _ _ _ _ _ _ _ _ _ _ _ _ _ _ _ r h => by simp [laws_FnSpent.l0] at h⟩
  | k + 1 => by
    obtain ⟨ih0, ih1⟩ := laws_FnSpent.mono_l k
    refine ⟨?_, ?_⟩
    · intro y0 y1 y2 y3 y4 y5 y6 y7 y8 y9 y10 y11 y12 y13 y14 y15 y16 y17 y18 y19 y20 y21 y22 y23 y24 y25 y26 y27 y28 y29 y30 y31
      unfold laws_FnSpent.j0
      repeat' first
      | (with_reducible exact ih0 _ _ _ _ _ _ _ _ _ _ _ _ _ _ _ _ _ _ _ _ _ _ _ _ _ _ _ _ _ _ _ _)
      | (with_reducible exact ih1 _ _ _ _ _ _ _ _ _ _ _ _ _ _ _ _ _ _ _ _ _ _ _ _ _ _ _ _ _ _ _ _)
      | (with_reducible exact spec_DrawDueSpend.mono _ _)
      | (with_reducible exact LeO.refl _)
      | (with_reducible exact LeO.none _)
      | (with_reducible refine LeO.ite ?_ ?_)
      | (with_reducible refine LeO.bind ?_ (fun _ => ?_))
      | exact ih0 _ _ _ _ _ _ _ _ _ _ _ _ _ _ _ _ _ _ _ _ _ _ _ _ _ _ _ _ _ _ _ _
      | exact ih1 _ _ _ _ _ _ _ _ _ _ _ _ _ _ _ _ _ _ _ _ _ _ _ _ _ _ _ _ _ _ _ _
      | exact spec_DrawDueSpend.mono _ _
      | exact LeO.none _
      | refine LeO.ite ?_ ?_
      | refine LeO.bind ?_ (fun _ => ?_)
    intro y0 y1 y2 y3 y4 y5 y6 y7 y8 y9 y10 y11 y12 y13 y14 y15 y16 y17 y18 y19 y20 y21 y22 y23 y24 y25 y26 y27 y28 y29 y30 y31
    unfold laws_FnSpent.l0
    repeat' first
    | (with_reducible exact ih0 _ _ _ _ _ _ _ _ _ _ _ _ _ _ _ _ _ _ _ _ _ _ _ _ _ _ _ _ _ _ _ _)
    | (with_reducible exact ih1 _ _ _ _ _ _ _ _ _ _ _ _ _ _ _ _ _ _ _ _ _ _ _ _ _ _ _ _ _ _ _ _)
    | (with_reducible exact spec_DrawDueSpend.mono _ _)
    | (with_reducible exact LeO.refl _)
    | (with_reducible exact LeO.none _)
    | (with_reducible refine LeO.ite ?_ ?_)
    | (with_reducible refine LeO.bind ?_ (fun _ => ?_))
    | exact ih0 _ _ _ _ _ _ _ _ _ _ _ _ _ _ _ _ _ _ _ _ _ _ _ _ _ _ _ _ _ _ _ _
    | exact ih1 _ _ _ _ _ _ _ _ _ _ _ _ _ _ _ _ _ _ _ _ _ _ _ _ _ _ _ _ _ _ _ _
    | exact spec_DrawDueSpend.mono _ _
    | exact LeO.none _
    | refine LeO.ite ?_ ?_
    | refine LeO.bind ?_ (fun _ => ?_)
theorem laws_FnSpent.mono : ∀ a0 k, LeO (laws_FnSpent.f k a0) (laws_FnSpent.f (k + 1) a0) := by
  intro a0 k
  obtain ⟨ih0, ih1⟩ := laws_FnSpent.mono_l k
  unfold laws_FnSpent.f
  repeat' first
      | (with_reducible exact ih0 _ _ _ _ _ _ _ _ _ _ _ _ _ _ _ _ _ _ _ _ _ _ _ _ _ _ _ _ _ _ _ _)
      | (with_reducible exact ih1 _ _ _ _ _ _ _ _ _ _ _ _ _ _ _ _ _ _ _ _ _ _ _ _ _ _ _ _ _ _ _ _)
      | (with_reducible exact spec_DrawDueSpend.mono _ _)
      | (with_reducible exact LeO.refl _)
      | (with_reducible exact LeO.none _)
      | (with_reducible refine LeO.ite ?_ ?_)
      | (with_reducible refine LeO.bind ?_ (fun _ => ?_))
      | exact ih0 _ _ _ _ _ _ _ _ _ _ _ _ _ _ _ _ _ _ _ _ _ _ _ _ _ _ _ _ _ _ _ _
      | exact ih1 _ _ _ _ _ _ _ _ _ _ _ _ _ _ _ _ _ _ _ _ _ _ _ _ _ _ _ _ _ _ _ _
      | exact spec_DrawDueSpend.mono _ _
      | exact LeO.none _
      | refine LeO.ite ?_ ?_
      | refine LeO.bind ?_ (fun _ => ?_)
def laws_FnSpent.T7 : Bool × List (List Nat × List Nat) := (true, [([], []), ([], []), ([1], [1]), ([0, 2], [0, 2]), ([3, 2], [3]), ([4], [4]), ([4], [4]), ([5, 6, 4], [4, 5, 6]), ([4, 7], [4, 7])])
def laws_FnSpent.B7 : List Nat := [0, 0, 2, 7, 15, 31, 31, 127, 255]
theorem laws_FnSpent.tab7 : rtab .any (opsOf Try.f9 7) = laws_FnSpent.T7 := by kernel_rfl
theorem laws_FnSpent.bits7 : waitsOk laws_FnSpent.T7.2 laws_FnSpent.B7 = true := by kernel_rfl
set_option maxHeartbeats 8000000 in
set_option maxRecDepth 100000 in
theorem laws_FnSpent.calls (k : Nat) (A0 : Option Addr) (c0 : Nat) (l0 : List Int) (r : Bool) (w : World) (hr0 : Kd.C (Kd.int .u8) w A0 l0.length l0) (hc0 : l0.length ≤ c0) (h : laws_FnSpent.f k l0 = some r) :
    Calls Try.prog 9 #[.slice A0 l0.length c0] w fun e w' => e = .returned (.bool r) ∧ Below w.heap.size w w' := by
  have hu24 := Try.underlying24
  have hu53 := Try.underlying53
  have HR0 := Aside0.mk hr0
  have HC0 := Aside0.mk hc0
  clear hr0 hc0
  have HB := aM (Below.refl w.heap.size w)
  have H : ((laws_big.f l0).bind fun t101 => (if t101 = true then (some true) else ((spec_DrawDueSpend.f k l0).bind fun bt102 => ((impl_DueSpend.f bt102.1 bt102.2.1 bt102.2.2.1 bt102.2.2.2.1 bt102.2.2.2.2.1 bt102.2.2.2.2.2.1 bt102.2.2.2.2.2.2.1 bt102.2.2.2.2.2.2.2.1 bt102.2.2.2.2.2.2.2.2.1 bt102.2.2.2.2.2.2.2.2.2.1 bt102.2.2.2.2.2.2.2.2.2.2.1 bt102.2.2.2.2.2.2.2.2.2.2.2.1 bt102.2.2.2.2.2.2.2.2.2.2.2.2.1 bt102.2.2.2.2.2.2.2.2.2.2.2.2.2).bind fun bt117 => ((impl_DueShare.f bt102.1 bt102.2.1 bt102.2.2.1 bt102.2.2.2.1 bt102.2.2.2.2.1 bt102.2.2.2.2.2.1 bt102.2.2.2.2.2.2.1 bt102.2.2.2.2.2.2.2.1 bt102.2.2.2.2.2.2.2.2.1 bt102.2.2.2.2.2.2.2.2.2.1 bt102.2.2.2.2.2.2.2.2.2.2.1 bt102.2.2.2.2.2.2.2.2.2.2.2.1 bt102.2.2.2.2.2.2.2.2.2.2.2.2.1 bt102.2.2.2.2.2.2.2.2.2.2.2.2.2).bind fun bt132 => ((spec_DueShare.f bt102.1 bt102.2.1 bt102.2.2.1 bt102.2.2.2.1 bt102.2.2.2.2.1 bt102.2.2.2.2.2.1 bt102.2.2.2.2.2.2.1 bt102.2.2.2.2.2.2.2.1 bt102.2.2.2.2.2.2.2.2.1 bt102.2.2.2.2.2.2.2.2.2.1 bt102.2.2.2.2.2.2.2.2.2.2.1 bt102.2.2.2.2.2.2.2.2.2.2.2.1 bt102.2.2.2.2.2.2.2.2.2.2.2.2.1 bt102.2.2.2.2.2.2.2.2.2.2.2.2.2).bind fun bt136 => ((spec_DueSpend.f bt102.1 bt102.2.1 bt102.2.2.1 bt102.2.2.2.1 bt102.2.2.2.2.1 bt102.2.2.2.2.2.1 bt102.2.2.2.2.2.2.1 bt102.2.2.2.2.2.2.2.1 bt102.2.2.2.2.2.2.2.2.1 bt102.2.2.2.2.2.2.2.2.2.1 bt102.2.2.2.2.2.2.2.2.2.2.1 bt102.2.2.2.2.2.2.2.2.2.2.2.1 bt102.2.2.2.2.2.2.2.2.2.2.2.2.1 bt102.2.2.2.2.2.2.2.2.2.2.2.2.2).bind fun bt140 => (if (!(bt117.1 == bt140.1) || (!(bt117.2.1 == bt140.2.1) || (!(bt117.2.2.1 == bt140.2.2.1) || (!(bt117.2.2.2.1 == bt140.2.2.2.1) || (!(bt117.2.2.2.2.1 == bt140.2.2.2.2.1) || (!(bt117.2.2.2.2.2.1 == bt140.2.2.2.2.2.1) || (!(bt117.2.2.2.2.2.2.1 == bt140.2.2.2.2.2.2.1) || (!(bt117.2.2.2.2.2.2.2.1 == bt140.2.2.2.2.2.2.2.1) || (!(bt117.2.2.2.2.2.2.2.2.1 == bt140.2.2.2.2.2.2.2.2.1) || (!(bt117.2.2.2.2.2.2.2.2.2.1 == bt140.2.2.2.2.2.2.2.2.2.1) || (!(bt117.2.2.2.2.2.2.2.2.2.2.1 == bt140.2.2.2.2.2.2.2.2.2.2.1) || (!(bt117.2.2.2.2.2.2.2.2.2.2.2.1 == bt140.2.2.2.2.2.2.2.2.2.2.2.1) || (!(bt117.2.2.2.2.2.2.2.2.2.2.2.2.1 == bt140.2.2.2.2.2.2.2.2.2.2.2.2.1) || (!(bt117.2.2.2.2.2.2.2.2.2.2.2.2.2 == bt140.2.2.2.2.2.2.2.2.2.2.2.2.2))))))))))))))) = true then (laws_FnSpent.j0 k bt132.2.2 true bt102.1 bt102.2.1 bt102.2.2.1 bt102.2.2.2.1 bt102.2.2.2.2.1 bt102.2.2.2.2.2.1 bt102.2.2.2.2.2.2.1 bt102.2.2.2.2.2.2.2.1 bt102.2.2.2.2.2.2.2.2.1 bt102.2.2.2.2.2.2.2.2.2.1 bt102.2.2.2.2.2.2.2.2.2.2.1 bt102.2.2.2.2.2.2.2.2.2.2.2.1 bt102.2.2.2.2.2.2.2.2.2.2.2.2.1 bt102.2.2.2.2.2.2.2.2.2.2.2.2.2 bt117.1 bt117.2.1 bt117.2.2.1 bt117.2.2.2.1 bt117.2.2.2.2.1 bt117.2.2.2.2.2.1 bt117.2.2.2.2.2.2.1 bt117.2.2.2.2.2.2.2.1 bt117.2.2.2.2.2.2.2.2.1 bt117.2.2.2.2.2.2.2.2.2.1 bt117.2.2.2.2.2.2.2.2.2.2.1 bt117.2.2.2.2.2.2.2.2.2.2.2.1 bt117.2.2.2.2.2.2.2.2.2.2.2.2.1 bt117.2.2.2.2.2.2.2.2.2.2.2.2.2 bt132.1 bt132.2.1) else (laws_FnSpent.j0 k bt132.2.2 (bt132.2.2 != bt136.2.2) bt102.1 bt102.2.1 bt102.2.2.1 bt102.2.2.2.1 bt102.2.2.2.2.1 bt102.2.2.2.2.2.1 bt102.2.2.2.2.2.2.1 bt102.2.2.2.2.2.2.2.1 bt102.2.2.2.2.2.2.2.2.1 bt102.2.2.2.2.2.2.2.2.2.1 bt102.2.2.2.2.2.2.2.2.2.2.1 bt102.2.2.2.2.2.2.2.2.2.2.2.1 bt102.2.2.2.2.2.2.2.2.2.2.2.2.1 bt102.2.2.2.2.2.2.2.2.2.2.2.2.2 bt117.1 bt117.2.1 bt117.2.2.1 bt117.2.2.2.1 bt117.2.2.2.2.1 bt117.2.2.2.2.2.1 bt117.2.2.2.2.2.2.1 bt117.2.2.2.2.2.2.2.1 bt117.2.2.2.2.2.2.2.2.1 bt117.2.2.2.2.2.2.2.2.2.1 bt117.2.2.2.2.2.2.2.2.2.2.1 bt117.2.2.2.2.2.2.2.2.2.2.2.1 bt117.2.2.2.2.2.2.2.2.2.2.2.2.1 bt117.2.2.2.2.2.2.2.2.2.2.2.2.2 bt132.1 bt132.2.1))))))))) = some r := h
  clear h
  replace H := Option.bind_eq_some_iff.mp H
  obtain ⟨t101, A20, H⟩ := H
  replace H : (if t101 = true then (some true) else ((spec_DrawDueSpend.f k l0).bind fun bt102 => ((impl_DueSpend.f bt102.1 bt102.2.1 bt102.2.2.1 bt102.2.2.2.1 bt102.2.2.2.2.1 bt102.2.2.2.2.2.1 bt102.2.2.2.2.2.2.1 bt102.2.2.2.2.2.2.2.1 bt102.2.2.2.2.2.2.2.2.1 bt102.2.2.2.2.2.2.2.2.2.1 bt102.2.2.2.2.2.2.2.2.2.2.1 bt102.2.2.2.2.2.2.2.2.2.2.2.1 bt102.2.2.2.2.2.2.2.2.2.2.2.2.1 bt102.2.2.2.2.2.2.2.2.2.2.2.2.2).bind fun bt117 => ((impl_DueShare.f bt102.1 bt102.2.1 bt102.2.2.1 bt102.2.2.2.1 bt102.2.2.2.2.1 bt102.2.2.2.2.2.1 bt102.2.2.2.2.2.2.1 bt102.2.2.2.2.2.2.2.1 bt102.2.2.2.2.2.2.2.2.1 bt102.2.2.2.2.2.2.2.2.2.1 bt102.2.2.2.2.2.2.2.2.2.2.1 bt102.2.2.2.2.2.2.2.2.2.2.2.1 bt102.2.2.2.2.2.2.2.2.2.2.2.2.1 bt102.2.2.2.2.2.2.2.2.2.2.2.2.2).bind fun bt132 => ((spec_DueShare.f bt102.1 bt102.2.1 bt102.2.2.1 bt102.2.2.2.1 bt102.2.2.2.2.1 bt102.2.2.2.2.2.1 bt102.2.2.2.2.2.2.1 bt102.2.2.2.2.2.2.2.1 bt102.2.2.2.2.2.2.2.2.1 bt102.2.2.2.2.2.2.2.2.2.1 bt102.2.2.2.2.2.2.2.2.2.2.1 bt102.2.2.2.2.2.2.2.2.2.2.2.1 bt102.2.2.2.2.2.2.2.2.2.2.2.2.1 bt102.2.2.2.2.2.2.2.2.2.2.2.2.2).bind fun bt136 => ((spec_DueSpend.f bt102.1 bt102.2.1 bt102.2.2.1 bt102.2.2.2.1 bt102.2.2.2.2.1 bt102.2.2.2.2.2.1 bt102.2.2.2.2.2.2.1 bt102.2.2.2.2.2.2.2.1 bt102.2.2.2.2.2.2.2.2.1 bt102.2.2.2.2.2.2.2.2.2.1 bt102.2.2.2.2.2.2.2.2.2.2.1 bt102.2.2.2.2.2.2.2.2.2.2.2.1 bt102.2.2.2.2.2.2.2.2.2.2.2.2.1 bt102.2.2.2.2.2.2.2.2.2.2.2.2.2).bind fun bt140 => (if (!(bt117.1 == bt140.1) || (!(bt117.2.1 == bt140.2.1) || (!(bt117.2.2.1 == bt140.2.2.1) || (!(bt117.2.2.2.1 == bt140.2.2.2.1) || (!(bt117.2.2.2.2.1 == bt140.2.2.2.2.1) || (!(bt117.2.2.2.2.2.1 == bt140.2.2.2.2.2.1) || (!(bt117.2.2.2.2.2.2.1 == bt140.2.2.2.2.2.2.1) || (!(bt117.2.2.2.2.2.2.2.1 == bt140.2.2.2.2.2.2.2.1) || (!(bt117.2.2.2.2.2.2.2.2.1 == bt140.2.2.2.2.2.2.2.2.1) || (!(bt117.2.2.2.2.2.2.2.2.2.1 == bt140.2.2.2.2.2.2.2.2.2.1) || (!(bt117.2.2.2.2.2.2.2.2.2.2.1 == bt140.2.2.2.2.2.2.2.2.2.2.1) || (!(bt117.2.2.2.2.2.2.2.2.2.2.2.1 == bt140.2.2.2.2.2.2.2.2.2.2.2.1) || (!(bt117.2.2.2.2.2.2.2.2.2.2.2.2.1 == bt140.2.2.2.2.2.2.2.2.2.2.2.2.1) || (!(bt117.2.2.2.2.2.2.2.2.2.2.2.2.2 == bt140.2.2.2.2.2.2.2.2.2.2.2.2.2))))))))))))))) = true then (laws_FnSpent.j0 k bt132.2.2 true bt102.1 bt102.2.1 bt102.2.2.1 bt102.2.2.2.1 bt102.2.2.2.2.1 bt102.2.2.2.2.2.1 bt102.2.2.2.2.2.2.1 bt102.2.2.2.2.2.2.2.1 bt102.2.2.2.2.2.2.2.2.1 bt102.2.2.2.2.2.2.2.2.2.1 bt102.2.2.2.2.2.2.2.2.2.2.1 bt102.2.2.2.2.2.2.2.2.2.2.2.1 bt102.2.2.2.2.2.2.2.2.2.2.2.2.1 bt102.2.2.2.2.2.2.2.2.2.2.2.2.2 bt117.1 bt117.2.1 bt117.2.2.1 bt117.2.2.2.1 bt117.2.2.2.2.1 bt117.2.2.2.2.2.1 bt117.2.2.2.2.2.2.1 bt117.2.2.2.2.2.2.2.1 bt117.2.2.2.2.2.2.2.2.1 bt117.2.2.2.2.2.2.2.2.2.1 bt117.2.2.2.2.2.2.2.2.2.2.1 bt117.2.2.2.2.2.2.2.2.2.2.2.1 bt117.2.2.2.2.2.2.2.2.2.2.2.2.1 bt117.2.2.2.2.2.2.2.2.2.2.2.2.2 bt132.1 bt132.2.1) else (laws_FnSpent.j0 k bt132.2.2 (bt132.2.2 != bt136.2.2) bt102.1 bt102.2.1 bt102.2.2.1 bt102.2.2.2.1 bt102.2.2.2.2.1 bt102.2.2.2.2.2.1 bt102.2.2.2.2.2.2.1 bt102.2.2.2.2.2.2.2.1 bt102.2.2.2.2.2.2.2.2.1 bt102.2.2.2.2.2.2.2.2.2.1 bt102.2.2.2.2.2.2.2.2.2.2.1 bt102.2.2.2.2.2.2.2.2.2.2.2.1 bt102.2.2.2.2.2.2.2.2.2.2.2.2.1 bt102.2.2.2.2.2.2.2.2.2.2.2.2.2 bt117.1 bt117.2.1 bt117.2.2.1 bt117.2.2.2.1 bt117.2.2.2.2.1 bt117.2.2.2.2.2.1 bt117.2.2.2.2.2.2.1 bt117.2.2.2.2.2.2.2.1 bt117.2.2.2.2.2.2.2.2.1 bt117.2.2.2.2.2.2.2.2.2.1 bt117.2.2.2.2.2.2.2.2.2.2.1 bt117.2.2.2.2.2.2.2.2.2.2.2.1 bt117.2.2.2.2.2.2.2.2.2.2.2.2.1 bt117.2.2.2.2.2.2.2.2.2.2.2.2.2 bt132.1 bt132.2.1)))))))) = some r := H
  have A2 := Aside0.mk A20
  clear A20
  by_cases c3 : t101 = true
  · subst c3
    have H1 : (some true) = some r := by rw [if_pos rfl] at H; exact H
    clear H
    have H := H1
    clear H1
    obtain rfl := Option.some.inj H
    go_enter Try.func9, Try.ntmps9
    go_wp2_with (first | ((with_reducible refine gate_callee (f := 19) rfl ?_); refine goesL_ (some 12) rfl rfl Try.func19 (by kernel_rfl) rfl #[.slice A0 l0.length c0] rfl (by (try simp only [List.map_toArray, List.map_cons, List.map_nil]); first | done | rfl | (simp only [List.length_drop, List.length_take]; rfl)) ?_; (with_reducible refine (laws_big.calls _ _ l0 true _ ?side1 ?side2 A2.out).mono ?_); (case side1 => repeat (first | exact HR0.out | (with_reducible refine Kd.C_alloc ?_ _) | (with_reducible refine Kd.C_drewN ?_ _) | (with_reducible refine Kd.C_drew ?_))); (case side2 => exact HC0.out); rintro e w' ⟨rfl, ⟨nd, rfl⟩⟩; refine ⟨_, rfl, ?_⟩))
    go_ret
    exact ⟨by first | rfl | (simp <;> rfl) | (simp [*] <;> rfl), by repeat (first | (with_reducible first | exact HB.out | apply beA | apply beD | apply bed) | exact HB.out)⟩
  replace c3 := Bool.eq_false_iff.mpr c3
  subst c3
  have H1 : ((spec_DrawDueSpend.f k l0).bind fun bt102 => ((impl_DueSpend.f bt102.1 bt102.2.1 bt102.2.2.1 bt102.2.2.2.1 bt102.2.2.2.2.1 bt102.2.2.2.2.2.1 bt102.2.2.2.2.2.2.1 bt102.2.2.2.2.2.2.2.1 bt102.2.2.2.2.2.2.2.2.1 bt102.2.2.2.2.2.2.2.2.2.1 bt102.2.2.2.2.2.2.2.2.2.2.1 bt102.2.2.2.2.2.2.2.2.2.2.2.1 bt102.2.2.2.2.2.2.2.2.2.2.2.2.1 bt102.2.2.2.2.2.2.2.2.2.2.2.2.2).bind fun bt117 => ((impl_DueShare.f bt102.1 bt102.2.1 bt102.2.2.1 bt102.2.2.2.1 bt102.2.2.2.2.1 bt102.2.2.2.2.2.1 bt102.2.2.2.2.2.2.1 bt102.2.2.2.2.2.2.2.1 bt102.2.2.2.2.2.2.2.2.1 bt102.2.2.2.2.2.2.2.2.2.1 bt102.2.2.2.2.2.2.2.2.2.2.1 bt102.2.2.2.2.2.2.2.2.2.2.2.1 bt102.2.2.2.2.2.2.2.2.2.2.2.2.1 bt102.2.2.2.2.2.2.2.2.2.2.2.2.2).bind fun bt132 => ((spec_DueShare.f bt102.1 bt102.2.1 bt102.2.2.1 bt102.2.2.2.1 bt102.2.2.2.2.1 bt102.2.2.2.2.2.1 bt102.2.2.2.2.2.2.1 bt102.2.2.2.2.2.2.2.1 bt102.2.2.2.2.2.2.2.2.1 bt102.2.2.2.2.2.2.2.2.2.1 bt102.2.2.2.2.2.2.2.2.2.2.1 bt102.2.2.2.2.2.2.2.2.2.2.2.1 bt102.2.2.2.2.2.2.2.2.2.2.2.2.1 bt102.2.2.2.2.2.2.2.2.2.2.2.2.2).bind fun bt136 => ((spec_DueSpend.f bt102.1 bt102.2.1 bt102.2.2.1 bt102.2.2.2.1 bt102.2.2.2.2.1 bt102.2.2.2.2.2.1 bt102.2.2.2.2.2.2.1 bt102.2.2.2.2.2.2.2.1 bt102.2.2.2.2.2.2.2.2.1 bt102.2.2.2.2.2.2.2.2.2.1 bt102.2.2.2.2.2.2.2.2.2.2.1 bt102.2.2.2.2.2.2.2.2.2.2.2.1 bt102.2.2.2.2.2.2.2.2.2.2.2.2.1 bt102.2.2.2.2.2.2.2.2.2.2.2.2.2).bind fun bt140 => (if (!(bt117.1 == bt140.1) || (!(bt117.2.1 == bt140.2.1) || (!(bt117.2.2.1 == bt140.2.2.1) || (!(bt117.2.2.2.1 == bt140.2.2.2.1) || (!(bt117.2.2.2.2.1 == bt140.2.2.2.2.1) || (!(bt117.2.2.2.2.2.1 == bt140.2.2.2.2.2.1) || (!(bt117.2.2.2.2.2.2.1 == bt140.2.2.2.2.2.2.1) || (!(bt117.2.2.2.2.2.2.2.1 == bt140.2.2.2.2.2.2.2.1) || (!(bt117.2.2.2.2.2.2.2.2.1 == bt140.2.2.2.2.2.2.2.2.1) || (!(bt117.2.2.2.2.2.2.2.2.2.1 == bt140.2.2.2.2.2.2.2.2.2.1) || (!(bt117.2.2.2.2.2.2.2.2.2.2.1 == bt140.2.2.2.2.2.2.2.2.2.2.1) || (!(bt117.2.2.2.2.2.2.2.2.2.2.2.1 == bt140.2.2.2.2.2.2.2.2.2.2.2.1) || (!(bt117.2.2.2.2.2.2.2.2.2.2.2.2.1 == bt140.2.2.2.2.2.2.2.2.2.2.2.2.1) || (!(bt117.2.2.2.2.2.2.2.2.2.2.2.2.2 == bt140.2.2.2.2.2.2.2.2.2.2.2.2.2))))))))))))))) = true then (laws_FnSpent.j0 k bt132.2.2 true bt102.1 bt102.2.1 bt102.2.2.1 bt102.2.2.2.1 bt102.2.2.2.2.1 bt102.2.2.2.2.2.1 bt102.2.2.2.2.2.2.1 bt102.2.2.2.2.2.2.2.1 bt102.2.2.2.2.2.2.2.2.1 bt102.2.2.2.2.2.2.2.2.2.1 bt102.2.2.2.2.2.2.2.2.2.2.1 bt102.2.2.2.2.2.2.2.2.2.2.2.1 bt102.2.2.2.2.2.2.2.2.2.2.2.2.1 bt102.2.2.2.2.2.2.2.2.2.2.2.2.2 bt117.1 bt117.2.1 bt117.2.2.1 bt117.2.2.2.1 bt117.2.2.2.2.1 bt117.2.2.2.2.2.1 bt117.2.2.2.2.2.2.1 bt117.2.2.2.2.2.2.2.1 bt117.2.2.2.2.2.2.2.2.1 bt117.2.2.2.2.2.2.2.2.2.1 bt117.2.2.2.2.2.2.2.2.2.2.1 bt117.2.2.2.2.2.2.2.2.2.2.2.1 bt117.2.2.2.2.2.2.2.2.2.2.2.2.1 bt117.2.2.2.2.2.2.2.2.2.2.2.2.2 bt132.1 bt132.2.1) else (laws_FnSpent.j0 k bt132.2.2 (bt132.2.2 != bt136.2.2) bt102.1 bt102.2.1 bt102.2.2.1 bt102.2.2.2.1 bt102.2.2.2.2.1 bt102.2.2.2.2.2.1 bt102.2.2.2.2.2.2.1 bt102.2.2.2.2.2.2.2.1 bt102.2.2.2.2.2.2.2.2.1 bt102.2.2.2.2.2.2.2.2.2.1 bt102.2.2.2.2.2.2.2.2.2.2.1 bt102.2.2.2.2.2.2.2.2.2.2.2.1 bt102.2.2.2.2.2.2.2.2.2.2.2.2.1 bt102.2.2.2.2.2.2.2.2.2.2.2.2.2 bt117.1 bt117.2.1 bt117.2.2.1 bt117.2.2.2.1 bt117.2.2.2.2.1 bt117.2.2.2.2.2.1 bt117.2.2.2.2.2.2.1 bt117.2.2.2.2.2.2.2.1 bt117.2.2.2.2.2.2.2.2.1 bt117.2.2.2.2.2.2.2.2.2.1 bt117.2.2.2.2.2.2.2.2.2.2.1 bt117.2.2.2.2.2.2.2.2.2.2.2.1 bt117.2.2.2.2.2.2.2.2.2.2.2.2.1 bt117.2.2.2.2.2.2.2.2.2.2.2.2.2 bt132.1 bt132.2.1))))))) = some r := by rw [if_neg (show ¬ (false = true) by decide)] at H; exact H
  clear H
  have H := H1
  clear H1
  replace H := Option.bind_eq_some_iff.mp H
  obtain ⟨⟨t102, t103, t104, t105, t106, t107, t108, t109, t110, t111, t112, t113, t114, t115⟩, A40, H⟩ := H
  replace H : ((impl_DueSpend.f t102 t103 t104 t105 t106 t107 t108 t109 t110 t111 t112 t113 t114 t115).bind fun bt117 => ((impl_DueShare.f t102 t103 t104 t105 t106 t107 t108 t109 t110 t111 t112 t113 t114 t115).bind fun bt132 => ((spec_DueShare.f t102 t103 t104 t105 t106 t107 t108 t109 t110 t111 t112 t113 t114 t115).bind fun bt136 => ((spec_DueSpend.f t102 t103 t104 t105 t106 t107 t108 t109 t110 t111 t112 t113 t114 t115).bind fun bt140 => (if (!(bt117.1 == bt140.1) || (!(bt117.2.1 == bt140.2.1) || (!(bt117.2.2.1 == bt140.2.2.1) || (!(bt117.2.2.2.1 == bt140.2.2.2.1) || (!(bt117.2.2.2.2.1 == bt140.2.2.2.2.1) || (!(bt117.2.2.2.2.2.1 == bt140.2.2.2.2.2.1) || (!(bt117.2.2.2.2.2.2.1 == bt140.2.2.2.2.2.2.1) || (!(bt117.2.2.2.2.2.2.2.1 == bt140.2.2.2.2.2.2.2.1) || (!(bt117.2.2.2.2.2.2.2.2.1 == bt140.2.2.2.2.2.2.2.2.1) || (!(bt117.2.2.2.2.2.2.2.2.2.1 == bt140.2.2.2.2.2.2.2.2.2.1) || (!(bt117.2.2.2.2.2.2.2.2.2.2.1 == bt140.2.2.2.2.2.2.2.2.2.2.1) || (!(bt117.2.2.2.2.2.2.2.2.2.2.2.1 == bt140.2.2.2.2.2.2.2.2.2.2.2.1) || (!(bt117.2.2.2.2.2.2.2.2.2.2.2.2.1 == bt140.2.2.2.2.2.2.2.2.2.2.2.2.1) || (!(bt117.2.2.2.2.2.2.2.2.2.2.2.2.2 == bt140.2.2.2.2.2.2.2.2.2.2.2.2.2))))))))))))))) = true then (laws_FnSpent.j0 k bt132.2.2 true t102 t103 t104 t105 t106 t107 t108 t109 t110 t111 t112 t113 t114 t115 bt117.1 bt117.2.1 bt117.2.2.1 bt117.2.2.2.1 bt117.2.2.2.2.1 bt117.2.2.2.2.2.1 bt117.2.2.2.2.2.2.1 bt117.2.2.2.2.2.2.2.1 bt117.2.2.2.2.2.2.2.2.1 bt117.2.2.2.2.2.2.2.2.2.1 bt117.2.2.2.2.2.2.2.2.2.2.1 bt117.2.2.2.2.2.2.2.2.2.2.2.1 bt117.2.2.2.2.2.2.2.2.2.2.2.2.1 bt117.2.2.2.2.2.2.2.2.2.2.2.2.2 bt132.1 bt132.2.1) else (laws_FnSpent.j0 k bt132.2.2 (bt132.2.2 != bt136.2.2) t102 t103 t104 t105 t106 t107 t108 t109 t110 t111 t112 t113 t114 t115 bt117.1 bt117.2.1 bt117.2.2.1 bt117.2.2.2.1 bt117.2.2.2.2.1 bt117.2.2.2.2.2.1 bt117.2.2.2.2.2.2.1 bt117.2.2.2.2.2.2.2.1 bt117.2.2.2.2.2.2.2.2.1 bt117.2.2.2.2.2.2.2.2.2.1 bt117.2.2.2.2.2.2.2.2.2.2.1 bt117.2.2.2.2.2.2.2.2.2.2.2.1 bt117.2.2.2.2.2.2.2.2.2.2.2.2.1 bt117.2.2.2.2.2.2.2.2.2.2.2.2.2 bt132.1 bt132.2.1)))))) = some r := H
  have A4 := Aside0.mk A40
  clear A40
  replace H := Option.bind_eq_some_iff.mp H
  obtain ⟨⟨t117, t118, t119, t120, t121, t122, t123, t124, t125, t126, t127, t128, t129, t130⟩, A50, H⟩ := H
  replace H : ((impl_DueShare.f t102 t103 t104 t105 t106 t107 t108 t109 t110 t111 t112 t113 t114 t115).bind fun bt132 => ((spec_DueShare.f t102 t103 t104 t105 t106 t107 t108 t109 t110 t111 t112 t113 t114 t115).bind fun bt136 => ((spec_DueSpend.f t102 t103 t104 t105 t106 t107 t108 t109 t110 t111 t112 t113 t114 t115).bind fun bt140 => (if (!(t117 == bt140.1) || (!(t118 == bt140.2.1) || (!(t119 == bt140.2.2.1) || (!(t120 == bt140.2.2.2.1) || (!(t121 == bt140.2.2.2.2.1) || (!(t122 == bt140.2.2.2.2.2.1) || (!(t123 == bt140.2.2.2.2.2.2.1) || (!(t124 == bt140.2.2.2.2.2.2.2.1) || (!(t125 == bt140.2.2.2.2.2.2.2.2.1) || (!(t126 == bt140.2.2.2.2.2.2.2.2.2.1) || (!(t127 == bt140.2.2.2.2.2.2.2.2.2.2.1) || (!(t128 == bt140.2.2.2.2.2.2.2.2.2.2.2.1) || (!(t129 == bt140.2.2.2.2.2.2.2.2.2.2.2.2.1) || (!(t130 == bt140.2.2.2.2.2.2.2.2.2.2.2.2.2))))))))))))))) = true then (laws_FnSpent.j0 k bt132.2.2 true t102 t103 t104 t105 t106 t107 t108 t109 t110 t111 t112 t113 t114 t115 t117 t118 t119 t120 t121 t122 t123 t124 t125 t126 t127 t128 t129 t130 bt132.1 bt132.2.1) else (laws_FnSpent.j0 k bt132.2.2 (bt132.2.2 != bt136.2.2) t102 t103 t104 t105 t106 t107 t108 t109 t110 t111 t112 t113 t114 t115 t117 t118 t119 t120 t121 t122 t123 t124 t125 t126 t127 t128 t129 t130 bt132.1 bt132.2.1))))) = some r := H
  have A5 := Aside0.mk A50
  clear A50
  replace H := Option.bind_eq_some_iff.mp H
  obtain ⟨⟨t132, t133, t134⟩, A60, H⟩ := H
  replace H : ((spec_DueShare.f t102 t103 t104 t105 t106 t107 t108 t109 t110 t111 t112 t113 t114 t115).bind fun bt136 => ((spec_DueSpend.f t102 t103 t104 t105 t106 t107 t108 t109 t110 t111 t112 t113 t114 t115).bind fun bt140 => (if (!(t117 == bt140.1) || (!(t118 == bt140.2.1) || (!(t119 == bt140.2.2.1) || (!(t120 == bt140.2.2.2.1) || (!(t121 == bt140.2.2.2.2.1) || (!(t122 == bt140.2.2.2.2.2.1) || (!(t123 == bt140.2.2.2.2.2.2.1) || (!(t124 == bt140.2.2.2.2.2.2.2.1) || (!(t125 == bt140.2.2.2.2.2.2.2.2.1) || (!(t126 == bt140.2.2.2.2.2.2.2.2.2.1) || (!(t127 == bt140.2.2.2.2.2.2.2.2.2.2.1) || (!(t128 == bt140.2.2.2.2.2.2.2.2.2.2.2.1) || (!(t129 == bt140.2.2.2.2.2.2.2.2.2.2.2.2.1) || (!(t130 == bt140.2.2.2.2.2.2.2.2.2.2.2.2.2))))))))))))))) = true then (laws_FnSpent.j0 k t134 true t102 t103 t104 t105 t106 t107 t108 t109 t110 t111 t112 t113 t114 t115 t117 t118 t119 t120 t121 t122 t123 t124 t125 t126 t127 t128 t129 t130 t132 t133) else (laws_FnSpent.j0 k t134 (t134 != bt136.2.2) t102 t103 t104 t105 t106 t107 t108 t109 t110 t111 t112 t113 t114 t115 t117 t118 t119 t120 t121 t122 t123 t124 t125 t126 t127 t128 t129 t130 t132 t133)))) = some r := H
  have A6 := Aside0.mk A60
  clear A60
  replace H := Option.bind_eq_some_iff.mp H
  obtain ⟨⟨t136, t137, t138⟩, A70, H⟩ := H
  replace H : ((spec_DueSpend.f t102 t103 t104 t105 t106 t107 t108 t109 t110 t111 t112 t113 t114 t115).bind fun bt140 => (if (!(t117 == bt140.1) || (!(t118 == bt140.2.1) || (!(t119 == bt140.2.2.1) || (!(t120 == bt140.2.2.2.1) || (!(t121 == bt140.2.2.2.2.1) || (!(t122 == bt140.2.2.2.2.2.1) || (!(t123 == bt140.2.2.2.2.2.2.1) || (!(t124 == bt140.2.2.2.2.2.2.2.1) || (!(t125 == bt140.2.2.2.2.2.2.2.2.1) || (!(t126 == bt140.2.2.2.2.2.2.2.2.2.1) || (!(t127 == bt140.2.2.2.2.2.2.2.2.2.2.1) || (!(t128 == bt140.2.2.2.2.2.2.2.2.2.2.2.1) || (!(t129 == bt140.2.2.2.2.2.2.2.2.2.2.2.2.1) || (!(t130 == bt140.2.2.2.2.2.2.2.2.2.2.2.2.2))))))))))))))) = true then (laws_FnSpent.j0 k t134 true t102 t103 t104 t105 t106 t107 t108 t109 t110 t111 t112 t113 t114 t115 t117 t118 t119 t120 t121 t122 t123 t124 t125 t126 t127 t128 t129 t130 t132 t133) else (laws_FnSpent.j0 k t134 (t134 != t138) t102 t103 t104 t105 t106 t107 t108 t109 t110 t111 t112 t113 t114 t115 t117 t118 t119 t120 t121 t122 t123 t124 t125 t126 t127 t128 t129 t130 t132 t133))) = some r := H
  have A7 := Aside0.mk A70
  clear A70
  have HC8 := Aside0.mk H
  clear H
  go_enter Try.func9, Try.ntmps9
  go_upto_region 7 with (first | ((with_reducible refine gate_callee (f := 19) rfl ?_); refine goesL_ (some 12) rfl rfl Try.func19 (by kernel_rfl) rfl #[.slice A0 l0.length c0] rfl (by (try simp only [List.map_toArray, List.map_cons, List.map_nil]); first | done | rfl | (simp only [List.length_drop, List.length_take]; rfl)) ?_; (with_reducible refine (laws_big.calls _ _ l0 false _ ?side1 ?side2 A2.out).mono ?_); (case side1 => repeat (first | exact HR0.out | (with_reducible refine Kd.C_alloc ?_ _) | (with_reducible refine Kd.C_drewN ?_ _) | (with_reducible refine Kd.C_drew ?_))); (case side2 => exact HC0.out); rintro e w' ⟨rfl, ⟨nd, rfl⟩⟩; refine ⟨_, rfl, ?_⟩) | ((with_reducible refine gate_callee (f := 41) rfl ?_); refine goesL_ (some 14) rfl rfl Try.func41 (by kernel_rfl) rfl #[.slice A0 l0.length c0] rfl (by (try simp only [List.map_toArray, List.map_cons, List.map_nil]); first | done | rfl | (simp only [List.length_drop, List.length_take]; rfl)) ?_; (with_reducible refine (spec_DrawDueSpend.calls k _ _ l0 t102 t103 t104 t105 t106 t107 t108 t109 t110 t111 t112 t113 t114 t115 _ ?side1 ?side2 A4.out).mono ?_); (case side1 => repeat (first | exact HR0.out | (with_reducible refine Kd.C_alloc ?_ _) | (with_reducible refine Kd.C_drewN ?_ _) | (with_reducible refine Kd.C_drew ?_))); (case side2 => exact HC0.out); rintro e w9 ⟨rfl, hb⟩; refine ⟨_, rfl, ?_⟩; have n0_ := aM (below_step (by repeat (first | (with_reducible first | exact HB.out | apply beA | apply beD | apply bed) | exact HB.out)) hb); clear HB; have HB := n0_; clear n0_; (try clear hb); (try clear hb2); (try clear hk); (try clear hi)) | ((with_reducible refine gate_dst (N := 3) rfl ?_); refine box_event ?hg (N := 3) ?hd (cs := tk14 0 0 0 0 false 0 0 0 0 0 0 0 0 0) (t := 24) ?hr ?_; (case hd => rfl); (case hg => rfl); (case hr => first | (go_simp; done) | (go_simp; rfl)); intro gb116 hg w10 hbox hb; have n0_ := aM (below_step (by repeat (first | (with_reducible first | exact HB.out | apply beA | apply beD | apply bed) | exact HB.out)) hb); have n1_ := aM (hbox); have n2_ := aM ((by rw [hg]; exact (below_size (by repeat (first | (with_reducible first | exact HB.out | apply beA | apply beD | apply bed) | exact HB.out))) : w.heap.size ≤ gb116)); have n3_ := n2_; clear HB; have HB := n0_; have BK116 := n1_; have GW116 := n2_; have GE116 := n3_; clear n0_ n1_ n2_ n3_; clear hb hbox hg; obtain ⟨hcz11_0, hcz11_1, hcz11_2, hcz11_3, hcz11_4, hcz11_5, hcz11_6, hcz11_7, hcz11_8, hcz11_9, hcz11_10, hcz11_11, hcz11_12, hcz11_13⟩ := cz14 BK116.out; have hfz11_0 := blk_frozen BK116.out) | ((with_reducible refine gate_callee (f := 42) rfl ?_); refine goesL_ (some 16) rfl rfl Try.func42 (by kernel_rfl) rfl #[.agg #[.int .i64 t102, .int .i64 t103, .int .i64 t104, .int .i64 t105, .bool t106, .int .i64 t107, .int .i64 t108, .int .i64 t109, .int .i64 t110, .int .i64 t111, .int .i64 t112, .int .i64 t113, .int .i64 t114, .int .i64 t115]] rfl (by (try simp only [List.map_toArray, List.map_cons, List.map_nil]); first | done | rfl | (simp only [List.length_drop, List.length_take]; rfl)) ?_; (with_reducible refine (impl_DueSpend.calls t102 t103 t104 t105 t106 t107 t108 t109 t110 t111 t112 t113 t114 t115 t117 t118 t119 t120 t121 t122 t123 t124 t125 t126 t127 t128 t129 t130 _ A5.out).mono ?_); rintro e w12 ⟨rfl, hb⟩; refine ⟨_, rfl, ?_⟩; have n0_ := aM (blk_below (g := gb116) (o := .cells (tk14 t102 t103 t104 t105 t106 t107 t108 t109 t110 t111 t112 t113 t114 t115) 24 (0, 0)) (by (with_reducible repeat (first | apply bkD | apply bkd | apply bkA)); refine blk_put (cs := tk14 t102 t103 t104 t105 t106 t107 t108 t109 t110 t111 t112 t113 t114 0) ?_ 13 _ rfl; (with_reducible repeat (first | apply bkD | apply bkd | apply bkA)); refine blk_put (cs := tk14 t102 t103 t104 t105 t106 t107 t108 t109 t110 t111 t112 t113 0 0) ?_ 12 _ rfl; (with_reducible repeat (first | apply bkD | apply bkd | apply bkA)); refine blk_put (cs := tk14 t102 t103 t104 t105 t106 t107 t108 t109 t110 t111 t112 0 0 0) ?_ 11 _ rfl; (with_reducible repeat (first | apply bkD | apply bkd | apply bkA)); refine blk_put (cs := tk14 t102 t103 t104 t105 t106 t107 t108 t109 t110 t111 0 0 0 0) ?_ 10 _ rfl; (with_reducible repeat (first | apply bkD | apply bkd | apply bkA)); refine blk_put (cs := tk14 t102 t103 t104 t105 t106 t107 t108 t109 t110 0 0 0 0 0) ?_ 9 _ rfl; (with_reducible repeat (first | apply bkD | apply bkd | apply bkA)); refine blk_put (cs := tk14 t102 t103 t104 t105 t106 t107 t108 t109 0 0 0 0 0 0) ?_ 8 _ rfl; (with_reducible repeat (first | apply bkD | apply bkd | apply bkA)); refine blk_put (cs := tk14 t102 t103 t104 t105 t106 t107 t108 0 0 0 0 0 0 0) ?_ 7 _ rfl; (with_reducible repeat (first | apply bkD | apply bkd | apply bkA)); refine blk_put (cs := tk14 t102 t103 t104 t105 t106 t107 0 0 0 0 0 0 0 0) ?_ 6 _ rfl; (with_reducible repeat (first | apply bkD | apply bkd | apply bkA)); refine blk_put (cs := tk14 t102 t103 t104 t105 t106 0 0 0 0 0 0 0 0 0) ?_ 5 _ rfl; (with_reducible repeat (first | apply bkD | apply bkd | apply bkA)); refine blk_put (cs := tk14 t102 t103 t104 t105 false 0 0 0 0 0 0 0 0 0) ?_ 4 _ rfl; (with_reducible repeat (first | apply bkD | apply bkd | apply bkA)); refine blk_put (cs := tk14 t102 t103 t104 0 false 0 0 0 0 0 0 0 0 0) ?_ 3 _ rfl; (with_reducible repeat (first | apply bkD | apply bkd | apply bkA)); refine blk_put (cs := tk14 t102 t103 0 0 false 0 0 0 0 0 0 0 0 0) ?_ 2 _ rfl; (with_reducible repeat (first | apply bkD | apply bkd | apply bkA)); refine blk_put (cs := tk14 t102 0 0 0 false 0 0 0 0 0 0 0 0 0) ?_ 1 _ rfl; (with_reducible repeat (first | apply bkD | apply bkd | apply bkA)); refine blk_put (cs := tk14 0 0 0 0 false 0 0 0 0 0 0 0 0 0) ?_ 0 _ rfl; (with_reducible repeat (first | apply bkD | apply bkd | apply bkA)); exact BK116.out) hb); have n1_ := aM (below_step (by repeat (first | (with_reducible first | exact HB.out | apply beA | apply beD | apply bed | refine beS ?_ GE116.out) | exact HB.out)) hb); clear BK116; clear HB; have BK116 := n0_; have HB := n1_; clear n0_ n1_; (try clear hb); (try clear hb2); (try clear hk); (try clear hi)) | ((with_reducible refine gate_dst (N := 4) rfl ?_); refine box_event ?hg (N := 4) ?hd (cs := tk14 0 0 0 0 false 0 0 0 0 0 0 0 0 0) (t := 24) ?hr ?_; (case hd => rfl); (case hg => rfl); (case hr => first | (go_simp; done) | (go_simp; rfl)); intro gb131 hg w13 hbox hb; have n0_ := aM (blk_below (g := gb116) (o := .cells (tk14 t102 t103 t104 t105 t106 t107 t108 t109 t110 t111 t112 t113 t114 t115) 24 (0, 0)) (by (with_reducible repeat (first | apply bkD | apply bkd | apply bkA)); exact BK116.out) hb); have n1_ := aM (below_step (by repeat (first | (with_reducible first | exact HB.out | apply beA | apply beD | apply bed | refine beS ?_ GE116.out) | exact HB.out)) hb); have n2_ := aM (hbox); have n3_ := aM ((by rw [hg]; exact (below_size (by repeat (first | (with_reducible first | exact HB.out | apply beA | apply beD | apply bed | refine beS ?_ GE116.out) | exact HB.out))) : w.heap.size ≤ gb131)); have n4_ := n3_; have n5_ := aM ((by rw [hg]; exact Nat.ne_of_lt (blk_lt (g := gb116) (o := .cells (tk14 t102 t103 t104 t105 t106 t107 t108 t109 t110 t111 t112 t113 t114 t115) 24 (0, 0)) (by (with_reducible repeat (first | apply bkD | apply bkd | apply bkA)); exact BK116.out)) : gb116 ≠ gb131)); have n6_ := aM (n5_.out.symm); clear BK116; clear HB; have BK116 := n0_; have HB := n1_; have BK131 := n2_; have GW131 := n3_; have GE131 := n4_; have NB116_131 := n5_; have NB131_116 := n6_; clear n0_ n1_ n2_ n3_ n4_ n5_ n6_; clear hb hbox hg; have hnb14 := NB131_116.out; have hnc14 := NB116_131.out; obtain ⟨hcz15_0, hcz15_1, hcz15_2, hcz15_3, hcz15_4, hcz15_5, hcz15_6, hcz15_7, hcz15_8, hcz15_9, hcz15_10, hcz15_11, hcz15_12, hcz15_13⟩ := cz14 BK131.out; have hfz15_0 := blk_frozen BK131.out; obtain ⟨hcz16_0, hcz16_1, hcz16_2, hcz16_3, hcz16_4, hcz16_5, hcz16_6, hcz16_7, hcz16_8, hcz16_9, hcz16_10, hcz16_11, hcz16_12, hcz16_13⟩ := cz14 BK116.out; have hfz16_0 := blk_frozen BK116.out) | ((with_reducible refine gate_callee (f := 43) rfl ?_); refine goesL_ (some 19) rfl rfl Try.func43 (by kernel_rfl) rfl #[.agg #[.int .i64 t102, .int .i64 t103, .int .i64 t104, .int .i64 t105, .bool t106, .int .i64 t107, .int .i64 t108, .int .i64 t109, .int .i64 t110, .int .i64 t111, .int .i64 t112, .int .i64 t113, .int .i64 t114, .int .i64 t115]] rfl (by (try simp only [List.map_toArray, List.map_cons, List.map_nil]); first | done | rfl | (simp only [List.length_drop, List.length_take]; rfl)) ?_; (with_reducible refine (impl_DueShare.calls t102 t103 t104 t105 t106 t107 t108 t109 t110 t111 t112 t113 t114 t115 t132 t133 t134 _ A6.out).mono ?_); rintro e w17 ⟨rfl, hb⟩; refine ⟨_, rfl, ?_⟩; have n0_ := aM (blk_below (g := gb116) (o := .cells (tk14 t102 t103 t104 t105 t106 t107 t108 t109 t110 t111 t112 t113 t114 t115) 24 (0, 0)) (by (with_reducible repeat (first | apply bkD | apply bkd | apply bkA)); refine blk_far ?_ NB116_131.out _; (with_reducible repeat (first | apply bkD | apply bkd | apply bkA)); refine blk_far ?_ NB116_131.out _; (with_reducible repeat (first | apply bkD | apply bkd | apply bkA)); refine blk_far ?_ NB116_131.out _; (with_reducible repeat (first | apply bkD | apply bkd | apply bkA)); refine blk_far ?_ NB116_131.out _; (with_reducible repeat (first | apply bkD | apply bkd | apply bkA)); refine blk_far ?_ NB116_131.out _; (with_reducible repeat (first | apply bkD | apply bkd | apply bkA)); refine blk_far ?_ NB116_131.out _; (with_reducible repeat (first | apply bkD | apply bkd | apply bkA)); refine blk_far ?_ NB116_131.out _; (with_reducible repeat (first | apply bkD | apply bkd | apply bkA)); refine blk_far ?_ NB116_131.out _; (with_reducible repeat (first | apply bkD | apply bkd | apply bkA)); refine blk_far ?_ NB116_131.out _; (with_reducible repeat (first | apply bkD | apply bkd | apply bkA)); refine blk_far ?_ NB116_131.out _; (with_reducible repeat (first | apply bkD | apply bkd | apply bkA)); refine blk_far ?_ NB116_131.out _; (with_reducible repeat (first | apply bkD | apply bkd | apply bkA)); refine blk_far ?_ NB116_131.out _; (with_reducible repeat (first | apply bkD | apply bkd | apply bkA)); refine blk_far ?_ NB116_131.out _; (with_reducible repeat (first | apply bkD | apply bkd | apply bkA)); refine blk_far ?_ NB116_131.out _; (with_reducible repeat (first | apply bkD | apply bkd | apply bkA)); exact BK116.out) hb); have n1_ := aM (blk_below (g := gb131) (o := .cells (tk14 t117 t118 t119 t120 t121 t122 t123 t124 t125 t126 t127 t128 t129 t130) 24 (0, 0)) (by (with_reducible repeat (first | apply bkD | apply bkd | apply bkA)); refine blk_put (cs := tk14 t117 t118 t119 t120 t121 t122 t123 t124 t125 t126 t127 t128 t129 0) ?_ 13 _ rfl; (with_reducible repeat (first | apply bkD | apply bkd | apply bkA)); refine blk_put (cs := tk14 t117 t118 t119 t120 t121 t122 t123 t124 t125 t126 t127 t128 0 0) ?_ 12 _ rfl; (with_reducible repeat (first | apply bkD | apply bkd | apply bkA)); refine blk_put (cs := tk14 t117 t118 t119 t120 t121 t122 t123 t124 t125 t126 t127 0 0 0) ?_ 11 _ rfl; (with_reducible repeat (first | apply bkD | apply bkd | apply bkA)); refine blk_put (cs := tk14 t117 t118 t119 t120 t121 t122 t123 t124 t125 t126 0 0 0 0) ?_ 10 _ rfl; (with_reducible repeat (first | apply bkD | apply bkd | apply bkA)); refine blk_put (cs := tk14 t117 t118 t119 t120 t121 t122 t123 t124 t125 0 0 0 0 0) ?_ 9 _ rfl; (with_reducible repeat (first | apply bkD | apply bkd | apply bkA)); refine blk_put (cs := tk14 t117 t118 t119 t120 t121 t122 t123 t124 0 0 0 0 0 0) ?_ 8 _ rfl; (with_reducible repeat (first | apply bkD | apply bkd | apply bkA)); refine blk_put (cs := tk14 t117 t118 t119 t120 t121 t122 t123 0 0 0 0 0 0 0) ?_ 7 _ rfl; (with_reducible repeat (first | apply bkD | apply bkd | apply bkA)); refine blk_put (cs := tk14 t117 t118 t119 t120 t121 t122 0 0 0 0 0 0 0 0) ?_ 6 _ rfl; (with_reducible repeat (first | apply bkD | apply bkd | apply bkA)); refine blk_put (cs := tk14 t117 t118 t119 t120 t121 0 0 0 0 0 0 0 0 0) ?_ 5 _ rfl; (with_reducible repeat (first | apply bkD | apply bkd | apply bkA)); refine blk_put (cs := tk14 t117 t118 t119 t120 false 0 0 0 0 0 0 0 0 0) ?_ 4 _ rfl; (with_reducible repeat (first | apply bkD | apply bkd | apply bkA)); refine blk_put (cs := tk14 t117 t118 t119 0 false 0 0 0 0 0 0 0 0 0) ?_ 3 _ rfl; (with_reducible repeat (first | apply bkD | apply bkd | apply bkA)); refine blk_put (cs := tk14 t117 t118 0 0 false 0 0 0 0 0 0 0 0 0) ?_ 2 _ rfl; (with_reducible repeat (first | apply bkD | apply bkd | apply bkA)); refine blk_put (cs := tk14 t117 0 0 0 false 0 0 0 0 0 0 0 0 0) ?_ 1 _ rfl; (with_reducible repeat (first | apply bkD | apply bkd | apply bkA)); refine blk_put (cs := tk14 0 0 0 0 false 0 0 0 0 0 0 0 0 0) ?_ 0 _ rfl; (with_reducible repeat (first | apply bkD | apply bkd | apply bkA)); exact BK131.out) hb); have n2_ := aM (below_step (by repeat (first | (with_reducible first | exact HB.out | apply beA | apply beD | apply bed | refine beS ?_ GE116.out | refine beS ?_ GE131.out) | exact HB.out)) hb); clear BK116; clear BK131; clear HB; have BK116 := n0_; have BK131 := n1_; have HB := n2_; clear n0_ n1_ n2_; (try clear hb); (try clear hb2); (try clear hk); (try clear hi)) | ((with_reducible refine gate_dst (N := 5) rfl ?_); refine box_event ?hg (N := 5) ?hd (cs := #[.int .i64 0, .int .i64 0]) (t := 53) ?hr ?_; (case hd => rfl); (case hg => rfl); (case hr => first | (go_simp; done) | (go_simp; rfl)); intro gb135 hg w18 hbox hb; have n0_ := aM (blk_below (g := gb116) (o := .cells (tk14 t102 t103 t104 t105 t106 t107 t108 t109 t110 t111 t112 t113 t114 t115) 24 (0, 0)) (by (with_reducible repeat (first | apply bkD | apply bkd | apply bkA)); exact BK116.out) hb); have n1_ := aM (blk_below (g := gb131) (o := .cells (tk14 t117 t118 t119 t120 t121 t122 t123 t124 t125 t126 t127 t128 t129 t130) 24 (0, 0)) (by (with_reducible repeat (first | apply bkD | apply bkd | apply bkA)); exact BK131.out) hb); have n2_ := aM (below_step (by repeat (first | (with_reducible first | exact HB.out | apply beA | apply beD | apply bed | refine beS ?_ GE116.out | refine beS ?_ GE131.out) | exact HB.out)) hb); have n3_ := aM (hbox); have n4_ := aM ((by rw [hg]; exact (below_size (by repeat (first | (with_reducible first | exact HB.out | apply beA | apply beD | apply bed | refine beS ?_ GE116.out | refine beS ?_ GE131.out) | exact HB.out))) : w.heap.size ≤ gb135)); have n5_ := n4_; have n6_ := aM ((by rw [hg]; exact Nat.ne_of_lt (blk_lt (g := gb116) (o := .cells (tk14 t102 t103 t104 t105 t106 t107 t108 t109 t110 t111 t112 t113 t114 t115) 24 (0, 0)) (by (with_reducible repeat (first | apply bkD | apply bkd | apply bkA)); exact BK116.out)) : gb116 ≠ gb135)); have n7_ := aM (n6_.out.symm); have n8_ := aM ((by rw [hg]; exact Nat.ne_of_lt (blk_lt (g := gb131) (o := .cells (tk14 t117 t118 t119 t120 t121 t122 t123 t124 t125 t126 t127 t128 t129 t130) 24 (0, 0)) (by (with_reducible repeat (first | apply bkD | apply bkd | apply bkA)); exact BK131.out)) : gb131 ≠ gb135)); have n9_ := aM (n8_.out.symm); clear BK116; clear BK131; clear HB; have BK116 := n0_; have BK131 := n1_; have HB := n2_; have BK135 := n3_; have GW135 := n4_; have GE135 := n5_; have NB116_135 := n6_; have NB135_116 := n7_; have NB131_135 := n8_; have NB135_131 := n9_; clear n0_ n1_ n2_ n3_ n4_ n5_ n6_ n7_ n8_ n9_; clear hb hbox hg; have hnb19 := NB135_116.out; have hnc19 := NB116_135.out; have hnb20 := NB135_131.out; have hnc20 := NB131_135.out; obtain ⟨hcz21_0, hcz21_1⟩ := cz2 BK135.out; have hfz21_0 := blk_frozen BK135.out; obtain ⟨hcz22_0, hcz22_1, hcz22_2, hcz22_3, hcz22_4, hcz22_5, hcz22_6, hcz22_7, hcz22_8, hcz22_9, hcz22_10, hcz22_11, hcz22_12, hcz22_13⟩ := cz14 BK116.out; have hfz22_0 := blk_frozen BK116.out) | ((with_reducible refine gate_callee (f := 44) rfl ?_); refine goesL_ (some 24) rfl rfl Try.func44 (by kernel_rfl) rfl #[.agg #[.int .i64 t102, .int .i64 t103, .int .i64 t104, .int .i64 t105, .bool t106, .int .i64 t107, .int .i64 t108, .int .i64 t109, .int .i64 t110, .int .i64 t111, .int .i64 t112, .int .i64 t113, .int .i64 t114, .int .i64 t115]] rfl (by (try simp only [List.map_toArray, List.map_cons, List.map_nil]); first | done | rfl | (simp only [List.length_drop, List.length_take]; rfl)) ?_; (with_reducible refine (spec_DueShare.calls t102 t103 t104 t105 t106 t107 t108 t109 t110 t111 t112 t113 t114 t115 t136 t137 t138 _ A7.out).mono ?_); rintro e w23 ⟨rfl, hb⟩; refine ⟨_, rfl, ?_⟩; have n0_ := aM (blk_below (g := gb116) (o := .cells (tk14 t102 t103 t104 t105 t106 t107 t108 t109 t110 t111 t112 t113 t114 t115) 24 (0, 0)) (by (with_reducible repeat (first | apply bkD | apply bkd | apply bkA)); refine blk_far ?_ NB116_135.out _; (with_reducible repeat (first | apply bkD | apply bkd | apply bkA)); refine blk_far ?_ NB116_135.out _; (with_reducible repeat (first | apply bkD | apply bkd | apply bkA)); exact BK116.out) hb); have n1_ := aM (blk_below (g := gb131) (o := .cells (tk14 t117 t118 t119 t120 t121 t122 t123 t124 t125 t126 t127 t128 t129 t130) 24 (0, 0)) (by (with_reducible repeat (first | apply bkD | apply bkd | apply bkA)); refine blk_far ?_ NB131_135.out _; (with_reducible repeat (first | apply bkD | apply bkd | apply bkA)); refine blk_far ?_ NB131_135.out _; (with_reducible repeat (first | apply bkD | apply bkd | apply bkA)); exact BK131.out) hb); have n2_ := aM (blk_below (g := gb135) (o := .cells #[.int .i64 t132, .int .i64 t133] 53 (0, 0)) (by (with_reducible repeat (first | apply bkD | apply bkd | apply bkA)); refine blk_put (cs := #[.int .i64 t132, .int .i64 0]) ?_ 1 _ rfl; (with_reducible repeat (first | apply bkD | apply bkd | apply bkA)); refine blk_put (cs := #[.int .i64 0, .int .i64 0]) ?_ 0 _ rfl; (with_reducible repeat (first | apply bkD | apply bkd | apply bkA)); exact BK135.out) hb); have n3_ := aM (below_step (by repeat (first | (with_reducible first | exact HB.out | apply beA | apply beD | apply bed | refine beS ?_ GE116.out | refine beS ?_ GE131.out | refine beS ?_ GE135.out) | exact HB.out)) hb); clear BK116; clear BK131; clear BK135; clear HB; have BK116 := n0_; have BK131 := n1_; have BK135 := n2_; have HB := n3_; clear n0_ n1_ n2_ n3_; (try clear hb); (try clear hb2); (try clear hk); (try clear hi)) | ((with_reducible refine gate_dst (N := 7) rfl ?_); refine box_event ?hg (N := 7) ?hd (cs := #[.int .i64 0, .int .i64 0]) (t := 53) ?hr ?_; (case hd => rfl); (case hg => rfl); (case hr => first | (go_simp; done) | (go_simp; rfl)); intro gb139 hg w24 hbox hb; have n0_ := aM (blk_below (g := gb116) (o := .cells (tk14 t102 t103 t104 t105 t106 t107 t108 t109 t110 t111 t112 t113 t114 t115) 24 (0, 0)) (by (with_reducible repeat (first | apply bkD | apply bkd | apply bkA)); exact BK116.out) hb); have n1_ := aM (blk_below (g := gb131) (o := .cells (tk14 t117 t118 t119 t120 t121 t122 t123 t124 t125 t126 t127 t128 t129 t130) 24 (0, 0)) (by (with_reducible repeat (first | apply bkD | apply bkd | apply bkA)); exact BK131.out) hb); have n2_ := aM (blk_below (g := gb135) (o := .cells #[.int .i64 t132, .int .i64 t133] 53 (0, 0)) (by (with_reducible repeat (first | apply bkD | apply bkd | apply bkA)); exact BK135.out) hb); have n3_ := aM (below_step (by repeat (first | (with_reducible first | exact HB.out | apply beA | apply beD | apply bed | refine beS ?_ GE116.out | refine beS ?_ GE131.out | refine beS ?_ GE135.out) | exact HB.out)) hb); have n4_ := aM (hbox); have n5_ := aM ((by rw [hg]; exact (below_size (by repeat (first | (with_reducible first | exact HB.out | apply beA | apply beD | apply bed | refine beS ?_ GE116.out | refine beS ?_ GE131.out | refine beS ?_ GE135.out) | exact HB.out))) : w.heap.size ≤ gb139)); have n6_ := n5_; have n7_ := aM ((by rw [hg]; exact Nat.ne_of_lt (blk_lt (g := gb116) (o := .cells (tk14 t102 t103 t104 t105 t106 t107 t108 t109 t110 t111 t112 t113 t114 t115) 24 (0, 0)) (by (with_reducible repeat (first | apply bkD | apply bkd | apply bkA)); exact BK116.out)) : gb116 ≠ gb139)); have n8_ := aM (n7_.out.symm); have n9_ := aM ((by rw [hg]; exact Nat.ne_of_lt (blk_lt (g := gb131) (o := .cells (tk14 t117 t118 t119 t120 t121 t122 t123 t124 t125 t126 t127 t128 t129 t130) 24 (0, 0)) (by (with_reducible repeat (first | apply bkD | apply bkd | apply bkA)); exact BK131.out)) : gb131 ≠ gb139)); have n10_ := aM (n9_.out.symm); have n11_ := aM ((by rw [hg]; exact Nat.ne_of_lt (blk_lt (g := gb135) (o := .cells #[.int .i64 t132, .int .i64 t133] 53 (0, 0)) (by (with_reducible repeat (first | apply bkD | apply bkd | apply bkA)); exact BK135.out)) : gb135 ≠ gb139)); have n12_ := aM (n11_.out.symm); clear BK116; clear BK131; clear BK135; clear HB; have BK116 := n0_; have BK131 := n1_; have BK135 := n2_; have HB := n3_; have BK139 := n4_; have GW139 := n5_; have GE139 := n6_; have NB116_139 := n7_; have NB139_116 := n8_; have NB131_139 := n9_; have NB139_131 := n10_; have NB135_139 := n11_; have NB139_135 := n12_; clear n0_ n1_ n2_ n3_ n4_ n5_ n6_ n7_ n8_ n9_ n10_ n11_ n12_; clear hb hbox hg; have hnb25 := NB139_116.out; have hnc25 := NB116_139.out; have hnb26 := NB139_131.out; have hnc26 := NB131_139.out; have hnb27 := NB139_135.out; have hnc27 := NB135_139.out; obtain ⟨hcz28_0, hcz28_1⟩ := cz2 BK139.out; have hfz28_0 := blk_frozen BK139.out))
  (try simp only [Act.put, List.setIfInBounds_toArray, List.set_cons_zero, List.set_cons_succ])
  go_cut [35] (fun v35 wc => ∃ (kq : Nat) (x35_7 : Bool), v35 = .bool x35_7 ∧ Aside0 (laws_FnSpent.j0 kq t134 x35_7 t102 t103 t104 t105 t106 t107 t108 t109 t110 t111 t112 t113 t114 t115 t117 t118 t119 t120 t121 t122 t123 t124 t125 t126 t127 t128 t129 t130 t132 t133 = some r) ∧ Aside0 (kq ≤ k) ∧ Aside0 (wc.heap[gb116]? = some (.cells #[.int .i64 t102, .int .i64 t103, .int .i64 t104, .int .i64 t105, .bool t106, .int .i64 t107, .int .i64 t108, .int .i64 t109, .int .i64 t110, .int .i64 t111, .int .i64 t112, .int .i64 t113, .int .i64 t114, .int .i64 t115] 24 (0, 0))) ∧ Aside0 (wc.heap[gb131]? = some (.cells #[.int .i64 t117, .int .i64 t118, .int .i64 t119, .int .i64 t120, .bool t121, .int .i64 t122, .int .i64 t123, .int .i64 t124, .int .i64 t125, .int .i64 t126, .int .i64 t127, .int .i64 t128, .int .i64 t129, .int .i64 t130] 24 (0, 0))) ∧ Aside0 (wc.heap[gb135]? = some (.cells #[.int .i64 t132, .int .i64 t133] 53 (0, 0))) ∧ Aside0 (wc.heap[gb139]? = some (.cells #[.int .i64 t136, .int .i64 t137] 53 (0, 0))) ∧ Aside0 (Below w.heap.size w wc))
  case first =>
    have H := HC8.out
    clear HC8
    replace H := Option.bind_eq_some_iff.mp H
    obtain ⟨⟨t140, t141, t142, t143, t144, t145, t146, t147, t148, t149, t150, t151, t152, t153⟩, A290, H⟩ := H
    replace H : (if (!(t117 == t140) || (!(t118 == t141) || (!(t119 == t142) || (!(t120 == t143) || (!(t121 == t144) || (!(t122 == t145) || (!(t123 == t146) || (!(t124 == t147) || (!(t125 == t148) || (!(t126 == t149) || (!(t127 == t150) || (!(t128 == t151) || (!(t129 == t152) || (!(t130 == t153))))))))))))))) = true then (laws_FnSpent.j0 k t134 true t102 t103 t104 t105 t106 t107 t108 t109 t110 t111 t112 t113 t114 t115 t117 t118 t119 t120 t121 t122 t123 t124 t125 t126 t127 t128 t129 t130 t132 t133) else (laws_FnSpent.j0 k t134 (t134 != t138) t102 t103 t104 t105 t106 t107 t108 t109 t110 t111 t112 t113 t114 t115 t117 t118 t119 t120 t121 t122 t123 t124 t125 t126 t127 t128 t129 t130 t132 t133)) = some r := H
    have A29 := Aside0.mk A290
    clear A290
    by_cases c30 : (!(t117 == t140) || (!(t118 == t141) || (!(t119 == t142) || (!(t120 == t143) || (!(t121 == t144) || (!(t122 == t145) || (!(t123 == t146) || (!(t124 == t147) || (!(t125 == t148) || (!(t126 == t149) || (!(t127 == t150) || (!(t128 == t151) || (!(t129 == t152) || (!(t130 == t153))))))))))))))) = true
    · rw [if_pos c30] at H
      have c30b0 : (!(t117 == t140) || (!(t118 == t141) || (!(t119 == t142) || (!(t120 == t143) || (!(t121 == t144) || (!(t122 == t145) || (!(t123 == t146) || (!(t124 == t147) || (!(t125 == t148) || (!(t126 == t149) || (!(t127 == t150) || (!(t128 == t151) || (!(t129 == t152) || (!(t130 == t153))))))))))))))) = true := c30
      clear c30
      (first | rw [c30b0] | (simp only [i64_w, i32_w]; rw [c30b0]) | skip)
      have H' := Aside0.mk H
      clear H
      try go_wp2
      have n0_ : Aside0 (((w24.setCell ⟨gb139, 0, none⟩ (.int .i64 t136)).setCell ⟨gb139, 1, none⟩ (.int .i64 t137)).heap[gb116]? = some (.cells #[.int .i64 t102, .int .i64 t103, .int .i64 t104, .int .i64 t105, .bool t106, .int .i64 t107, .int .i64 t108, .int .i64 t109, .int .i64 t110, .int .i64 t111, .int .i64 t112, .int .i64 t113, .int .i64 t114, .int .i64 t115] 24 (0, 0))) := ⟨by (with_reducible repeat (first | apply bkD | apply bkd | apply bkA)); refine blk_far ?_ NB116_139.out _; (with_reducible repeat (first | apply bkD | apply bkd | apply bkA)); refine blk_far ?_ NB116_139.out _; (with_reducible repeat (first | apply bkD | apply bkd | apply bkA)); exact BK116.out⟩
      have n1_ : Aside0 (((w24.setCell ⟨gb139, 0, none⟩ (.int .i64 t136)).setCell ⟨gb139, 1, none⟩ (.int .i64 t137)).heap[gb131]? = some (.cells #[.int .i64 t117, .int .i64 t118, .int .i64 t119, .int .i64 t120, .bool t121, .int .i64 t122, .int .i64 t123, .int .i64 t124, .int .i64 t125, .int .i64 t126, .int .i64 t127, .int .i64 t128, .int .i64 t129, .int .i64 t130] 24 (0, 0))) := ⟨by (with_reducible repeat (first | apply bkD | apply bkd | apply bkA)); refine blk_far ?_ NB131_139.out _; (with_reducible repeat (first | apply bkD | apply bkd | apply bkA)); refine blk_far ?_ NB131_139.out _; (with_reducible repeat (first | apply bkD | apply bkd | apply bkA)); exact BK131.out⟩
      have n2_ : Aside0 (((w24.setCell ⟨gb139, 0, none⟩ (.int .i64 t136)).setCell ⟨gb139, 1, none⟩ (.int .i64 t137)).heap[gb135]? = some (.cells #[.int .i64 t132, .int .i64 t133] 53 (0, 0))) := ⟨by (with_reducible repeat (first | apply bkD | apply bkd | apply bkA)); refine blk_far ?_ NB135_139.out _; (with_reducible repeat (first | apply bkD | apply bkd | apply bkA)); refine blk_far ?_ NB135_139.out _; (with_reducible repeat (first | apply bkD | apply bkd | apply bkA)); exact BK135.out⟩
      have n3_ : Aside0 (((w24.setCell ⟨gb139, 0, none⟩ (.int .i64 t136)).setCell ⟨gb139, 1, none⟩ (.int .i64 t137)).heap[gb139]? = some (.cells #[.int .i64 t136, .int .i64 t137] 53 (0, 0))) := ⟨by (with_reducible repeat (first | apply bkD | apply bkd | apply bkA)); refine blk_put (cs := #[.int .i64 t136, .int .i64 0]) ?_ 1 _ rfl; (with_reducible repeat (first | apply bkD | apply bkd | apply bkA)); refine blk_put (cs := #[.int .i64 0, .int .i64 0]) ?_ 0 _ rfl; (with_reducible repeat (first | apply bkD | apply bkd | apply bkA)); exact BK139.out⟩
      have n4_ : Aside0 (Below w.heap.size w ((w24.setCell ⟨gb139, 0, none⟩ (.int .i64 t136)).setCell ⟨gb139, 1, none⟩ (.int .i64 t137))) := ⟨by repeat (first | (with_reducible first | exact HB.out | apply beA | apply beD | apply bed | refine beS ?_ GE116.out | refine beS ?_ GE131.out | refine beS ?_ GE135.out | refine beS ?_ GE139.out) | exact HB.out)⟩
      (try clear BK116)
      (try clear BK131)
      (try clear BK135)
      (try clear BK139)
      (try clear HB)
      generalize ((w24.setCell ⟨gb139, 0, none⟩ (.int .i64 t136)).setCell ⟨gb139, 1, none⟩ (.int .i64 t137)) = w31 at n0_ n1_ n2_ n3_ n4_ ⊢
      have BK116 := n0_
      have BK131 := n1_
      have BK135 := n2_
      have BK139 := n3_
      have HB := n4_
      clear n0_ n1_ n2_ n3_ n4_
      have n0_ := aM (blk_drew BK116.out)
      have n1_ := aM (blk_drew BK131.out)
      have n2_ := aM (blk_drew BK135.out)
      have n3_ := aM (blk_drew BK139.out)
      have n4_ := aM (below_drew1 HB.out)
      clear BK116
      clear BK131
      clear BK135
      clear BK139
      clear HB
      have BK116 := n0_
      have BK131 := n1_
      have BK135 := n2_
      have BK139 := n3_
      have HB := n4_
      clear n0_ n1_ n2_ n3_ n4_
      refine start_ (n := 9) (S := fun w' => cb14t w' gb131 (.int .i64 t117) (.int .i64 t118) (.int .i64 t119) (.int .i64 t120) (.bool t121) (.int .i64 t122) (.int .i64 t123) (.int .i64 t124) (.int .i64 t125) (.int .i64 t126) (.int .i64 t127) (.int .i64 t128) (.int .i64 t129) (.int .i64 t130) (cb14 w' gb116 (.int .i64 t102) (.int .i64 t103) (.int .i64 t104) (.int .i64 t105) (.bool t106) (.int .i64 t107) (.int .i64 t108) (.int .i64 t109) (.int .i64 t110) (.int .i64 t111) (.int .i64 t112) (.int .i64 t113) (.int .i64 t114) (.int .i64 t115))) (ds := []) #[nn,nn,nn,nn,nn,nn,nn,nn,nn] (by kernel_rfl) rfl rfl ⟨(blk_cell BK131.out 0).trans rfl, (blk_cell BK131.out 1).trans rfl, (blk_cell BK131.out 2).trans rfl, (blk_cell BK131.out 3).trans rfl, (blk_cell BK131.out 4).trans rfl, (blk_cell BK131.out 5).trans rfl, (blk_cell BK131.out 6).trans rfl, (blk_cell BK131.out 7).trans rfl, (blk_cell BK131.out 8).trans rfl, (blk_cell BK131.out 9).trans rfl, (blk_cell BK131.out 10).trans rfl, (blk_cell BK131.out 11).trans rfl, (blk_cell BK131.out 12).trans rfl, (blk_cell BK131.out 13).trans rfl, (blk_cell BK116.out 0).trans rfl, (blk_cell BK116.out 1).trans rfl, (blk_cell BK116.out 2).trans rfl, (blk_cell BK116.out 3).trans rfl, (blk_cell BK116.out 4).trans rfl, (blk_cell BK116.out 5).trans rfl, (blk_cell BK116.out 6).trans rfl, (blk_cell BK116.out 7).trans rfl, (blk_cell BK116.out 8).trans rfl, (blk_cell BK116.out 9).trans rfl, (blk_cell BK116.out 10).trans rfl, (blk_cell BK116.out 11).trans rfl, (blk_cell BK116.out 12).trans rfl, (blk_cell BK116.out 13).trans rfl⟩ (fun hHeld => ?_); refine with_tabW laws_FnSpent.tab7 laws_FnSpent.bits7 (fun HT_ HW_ => ?_)
      generalize w31.drew = w32 at BK116 BK131 BK135 BK139 HB hHeld ⊢
      refine take_ (i := 0) (N := some 27) (v := ?_) (a' := ?_) #[yy,nn,nn,nn,nn,nn,nn,nn,nn] rfl rfl (take_ofW HT_.out HW_.out (by kernel_rfl)) (fun _ _ _ h => h) (Or.inl ⟨by rfl, ?_⟩) hHeld ?_ ?_
      rotate_left
      · rintro w' ⟨s0, s1, s2, s3, s4, s5, s6, s7, s8, s9, s10, s11, s12, s13, s14, s15, s16, s17, s18, s19, s20, s21, s22, s23, s24, s25, s26, s27⟩
        go_simp
        with_reducible rfl
      rotate_left
      · simp only [Act.put, List.setIfInBounds_toArray, List.set_cons_zero, List.set_cons_succ, i64_w, i32_w]
        rfl
      refine take_ (i := 1) (N := some 28) (v := ?_) (a' := ?_) #[yy,yy,nn,nn,nn,nn,nn,nn,nn] rfl rfl (take_ofW HT_.out HW_.out (by kernel_rfl)) (fun _ _ _ h => h) (Or.inl ⟨by rfl, ?_⟩) hHeld ?_ ?_
      rotate_left
      · rintro w' ⟨s0, s1, s2, s3, s4, s5, s6, s7, s8, s9, s10, s11, s12, s13, s14, s15, s16, s17, s18, s19, s20, s21, s22, s23, s24, s25, s26, s27⟩
        go_simp
        with_reducible rfl
      rotate_left
      · simp only [Act.put, List.setIfInBounds_toArray, List.set_cons_zero, List.set_cons_succ, i64_w, i32_w]
        rfl
      refine one_ (i := 2) (N := some 29) #[yy,yy,yy,nn,nn,nn,nn,nn,nn] rfl rfl (one_of HT_.out (by kernel_rfl)) (by decide) (fun K hK => ?_)
      refine goes_ Try.func45 (by kernel_rfl) rfl #[.agg #[.int .i64 t102, .int .i64 t103, .int .i64 t104, .int .i64 t105, .bool t106, .int .i64 t107, .int .i64 t108, .int .i64 t109, .int .i64 t110, .int .i64 t111, .int .i64 t112, .int .i64 t113, .int .i64 t114, .int .i64 t115]] (by rfl) rfl rfl (by (try simp only [List.map_toArray, List.map_cons, List.map_nil]); first | done | rfl | (simp only [List.length_drop, List.length_take]; rfl)) ?_
      with_reducible refine (spec_DueSpend.calls t102 t103 t104 t105 t106 t107 t108 t109 t110 t111 t112 t113 t114 t115 t140 t141 t142 t143 t144 t145 t146 t147 t148 t149 t150 t151 t152 t153 _ A29.out).mono ?_
      rintro e w33 ⟨rfl, hb⟩
      refine ⟨_, rfl, ?_⟩
      have n0_ := aM (blk_below (g := gb116) (o := .cells (tk14 t102 t103 t104 t105 t106 t107 t108 t109 t110 t111 t112 t113 t114 t115) 24 (0, 0)) (by (with_reducible repeat (first | apply bkD | apply bkd | apply bkA)); exact BK116.out) hb)
      have n1_ := aM (blk_below (g := gb131) (o := .cells (tk14 t117 t118 t119 t120 t121 t122 t123 t124 t125 t126 t127 t128 t129 t130) 24 (0, 0)) (by (with_reducible repeat (first | apply bkD | apply bkd | apply bkA)); exact BK131.out) hb)
      have n2_ := aM (blk_below (g := gb135) (o := .cells #[.int .i64 t132, .int .i64 t133] 53 (0, 0)) (by (with_reducible repeat (first | apply bkD | apply bkd | apply bkA)); exact BK135.out) hb)
      have n3_ := aM (blk_below (g := gb139) (o := .cells #[.int .i64 t136, .int .i64 t137] 53 (0, 0)) (by (with_reducible repeat (first | apply bkD | apply bkd | apply bkA)); exact BK139.out) hb)
      have n4_ := aM (below_step (by repeat (first | (with_reducible first | exact HB.out | apply beA | apply beD | apply bed | refine beS ?_ GE116.out | refine beS ?_ GE131.out | refine beS ?_ GE135.out | refine beS ?_ GE139.out) | exact HB.out)) hb)
      clear BK116
      clear BK131
      clear BK135
      clear BK139
      clear HB
      have BK116 := n0_
      have BK131 := n1_
      have BK135 := n2_
      have BK139 := n3_
      have HB := n4_
      clear n0_ n1_ n2_ n3_ n4_
      (try clear hb)
      (try clear hb2)
      (try clear hk)
      (try clear hi)
      refine hK.out _ _ ⟨(blk_cell BK131.out 0).trans rfl, (blk_cell BK131.out 1).trans rfl, (blk_cell BK131.out 2).trans rfl, (blk_cell BK131.out 3).trans rfl, (blk_cell BK131.out 4).trans rfl, (blk_cell BK131.out 5).trans rfl, (blk_cell BK131.out 6).trans rfl, (blk_cell BK131.out 7).trans rfl, (blk_cell BK131.out 8).trans rfl, (blk_cell BK131.out 9).trans rfl, (blk_cell BK131.out 10).trans rfl, (blk_cell BK131.out 11).trans rfl, (blk_cell BK131.out 12).trans rfl, (blk_cell BK131.out 13).trans rfl, (blk_cell BK116.out 0).trans rfl, (blk_cell BK116.out 1).trans rfl, (blk_cell BK116.out 2).trans rfl, (blk_cell BK116.out 3).trans rfl, (blk_cell BK116.out 4).trans rfl, (blk_cell BK116.out 5).trans rfl, (blk_cell BK116.out 6).trans rfl, (blk_cell BK116.out 7).trans rfl, (blk_cell BK116.out 8).trans rfl, (blk_cell BK116.out 9).trans rfl, (blk_cell BK116.out 10).trans rfl, (blk_cell BK116.out 11).trans rfl, (blk_cell BK116.out 12).trans rfl, (blk_cell BK116.out 13).trans rfl⟩ (fun hHeld => ?_)
      clear hK K
      refine norm_ (a' := ?_) ?_ ?_
      rotate_left
      · show Act.put _ (some 29) _ = _
        simp only [Act.put, List.setIfInBounds_toArray, List.set_cons_zero, List.set_cons_succ, i64_w, i32_w]
        rfl
      refine pure_ (i := 3) (N := some 30) (v := ?_) (a' := ?_) #[yy,yy,yy,yy,nn,nn,nn,nn,nn] rfl rfl (any_of HT_.out (by kernel_rfl)) (fun _ _ _ h => h) (Or.inl ⟨by rfl, ?_⟩) ?_ ?_
      rotate_left
      · intro w'
        go_simp
        with_reducible rfl
      rotate_left
      · simp only [Act.put, List.setIfInBounds_toArray, List.set_cons_zero, List.set_cons_succ, i64_w, i32_w]
        rfl
      refine pure_ (i := 4) (N := some 31) (v := ?_) (a' := ?_) #[yy,yy,yy,yy,yy,nn,nn,nn,nn] rfl rfl (any_of HT_.out (by kernel_rfl)) (fun _ _ _ h => h) (Or.inl ⟨by rfl, ?_⟩) ?_ ?_
      rotate_left
      · intro w'
        go_simp
        with_reducible rfl
      rotate_left
      · simp only [Act.put, List.setIfInBounds_toArray, List.set_cons_zero, List.set_cons_succ, i64_w, i32_w]
        rfl
      refine pure_ (i := 5) (N := some 32) (v := undef) (a' := ?_) #[yy,yy,yy,yy,yy,yy,nn,nn,nn] rfl rfl (any_of HT_.out (by kernel_rfl)) (fun _ _ _ h => h) (Or.inr ⟨by rfl, rfl⟩) ?_ ?_
      rotate_left
      · simp only [Act.put, List.setIfInBounds_toArray, List.set_cons_zero, List.set_cons_succ, i64_w, i32_w]
        rfl
      refine pure_ (i := 6) (N := some 33) (v := undef) (a' := ?_) #[yy,yy,yy,yy,yy,yy,yy,nn,nn] rfl rfl (any_of HT_.out (by kernel_rfl)) (fun _ _ _ h => h) (Or.inr ⟨by rfl, rfl⟩) ?_ ?_
      rotate_left
      · simp only [Act.put, List.setIfInBounds_toArray, List.set_cons_zero, List.set_cons_succ, i64_w, i32_w]
        rfl
      refine pure_ (i := 7) (N := some 34) (v := undef) (a' := ?_) #[yy,yy,yy,yy,yy,yy,yy,yy,nn] rfl rfl (any_of HT_.out (by kernel_rfl)) (fun _ _ _ h => h) (Or.inr ⟨by rfl, rfl⟩) ?_ ?_
      rotate_left
      · simp only [Act.put, List.setIfInBounds_toArray, List.set_cons_zero, List.set_cons_succ, i64_w, i32_w]
        rfl
      refine pure_ (i := 8) (N := some 35) (v := ?_) (a' := ?_) #[yy,yy,yy,yy,yy,yy,yy,yy,yy] rfl rfl (any_of HT_.out (by kernel_rfl)) (fun _ _ _ h => h) (Or.inl ⟨by rfl, ?_⟩) ?_ ?_
      rotate_left
      · intro w'
        go_simp
        with_reducible rfl
      rotate_left
      · simp only [Act.put, List.setIfInBounds_toArray, List.set_cons_zero, List.set_cons_succ, i64_w, i32_w]
        rfl
      refine done_ (done_of HT_.out (by kernel_rfl)) ?_
      try go_wp2
      go_meet
      case rel => exact ⟨_, (true), (by first | rfl | (simp; done) | (simp [*]; done)), H', ⟨by first | omega | exact Nat.le_refl _⟩, ⟨by (with_reducible repeat (first | apply bkD | apply bkd | apply bkA)); exact BK116.out⟩, ⟨by (with_reducible repeat (first | apply bkD | apply bkd | apply bkA)); exact BK131.out⟩, ⟨by (with_reducible repeat (first | apply bkD | apply bkd | apply bkA)); exact BK135.out⟩, ⟨by (with_reducible repeat (first | apply bkD | apply bkd | apply bkA)); exact BK139.out⟩, ⟨by repeat (first | (with_reducible first | exact HB.out | apply beA | apply beD | apply bed | refine beS ?_ GE116.out | refine beS ?_ GE131.out | refine beS ?_ GE135.out | refine beS ?_ GE139.out) | exact HB.out)⟩⟩
    rw [if_neg c30] at H
    have c30b0 : (!(t117 == t140) || (!(t118 == t141) || (!(t119 == t142) || (!(t120 == t143) || (!(t121 == t144) || (!(t122 == t145) || (!(t123 == t146) || (!(t124 == t147) || (!(t125 == t148) || (!(t126 == t149) || (!(t127 == t150) || (!(t128 == t151) || (!(t129 == t152) || (!(t130 == t153))))))))))))))) = false := by simpa using c30
    clear c30
    (first | rw [c30b0] | (simp only [i64_w, i32_w]; rw [c30b0]) | skip)
    have H' := Aside0.mk H
    clear H
    try go_wp2
    have n0_ : Aside0 (((w24.setCell ⟨gb139, 0, none⟩ (.int .i64 t136)).setCell ⟨gb139, 1, none⟩ (.int .i64 t137)).heap[gb116]? = some (.cells #[.int .i64 t102, .int .i64 t103, .int .i64 t104, .int .i64 t105, .bool t106, .int .i64 t107, .int .i64 t108, .int .i64 t109, .int .i64 t110, .int .i64 t111, .int .i64 t112, .int .i64 t113, .int .i64 t114, .int .i64 t115] 24 (0, 0))) := ⟨by (with_reducible repeat (first | apply bkD | apply bkd | apply bkA)); refine blk_far ?_ NB116_139.out _; (with_reducible repeat (first | apply bkD | apply bkd | apply bkA)); refine blk_far ?_ NB116_139.out _; (with_reducible repeat (first | apply bkD | apply bkd | apply bkA)); exact BK116.out⟩
    have n1_ : Aside0 (((w24.setCell ⟨gb139, 0, none⟩ (.int .i64 t136)).setCell ⟨gb139, 1, none⟩ (.int .i64 t137)).heap[gb131]? = some (.cells #[.int .i64 t117, .int .i64 t118, .int .i64 t119, .int .i64 t120, .bool t121, .int .i64 t122, .int .i64 t123, .int .i64 t124, .int .i64 t125, .int .i64 t126, .int .i64 t127, .int .i64 t128, .int .i64 t129, .int .i64 t130] 24 (0, 0))) := ⟨by (with_reducible repeat (first | apply bkD | apply bkd | apply bkA)); refine blk_far ?_ NB131_139.out _; (with_reducible repeat (first | apply bkD | apply bkd | apply bkA)); refine blk_far ?_ NB131_139.out _; (with_reducible repeat (first | apply bkD | apply bkd | apply bkA)); exact BK131.out⟩
    have n2_ : Aside0 (((w24.setCell ⟨gb139, 0, none⟩ (.int .i64 t136)).setCell ⟨gb139, 1, none⟩ (.int .i64 t137)).heap[gb135]? = some (.cells #[.int .i64 t132, .int .i64 t133] 53 (0, 0))) := ⟨by (with_reducible repeat (first | apply bkD | apply bkd | apply bkA)); refine blk_far ?_ NB135_139.out _; (with_reducible repeat (first | apply bkD | apply bkd | apply bkA)); refine blk_far ?_ NB135_139.out _; (with_reducible repeat (first | apply bkD | apply bkd | apply bkA)); exact BK135.out⟩
    have n3_ : Aside0 (((w24.setCell ⟨gb139, 0, none⟩ (.int .i64 t136)).setCell ⟨gb139, 1, none⟩ (.int .i64 t137)).heap[gb139]? = some (.cells #[.int .i64 t136, .int .i64 t137] 53 (0, 0))) := ⟨by (with_reducible repeat (first | apply bkD | apply bkd | apply bkA)); refine blk_put (cs := #[.int .i64 t136, .int .i64 0]) ?_ 1 _ rfl; (with_reducible repeat (first | apply bkD | apply bkd | apply bkA)); refine blk_put (cs := #[.int .i64 0, .int .i64 0]) ?_ 0 _ rfl; (with_reducible repeat (first | apply bkD | apply bkd | apply bkA)); exact BK139.out⟩
    have n4_ : Aside0 (Below w.heap.size w ((w24.setCell ⟨gb139, 0, none⟩ (.int .i64 t136)).setCell ⟨gb139, 1, none⟩ (.int .i64 t137))) := ⟨by repeat (first | (with_reducible first | exact HB.out | apply beA | apply beD | apply bed | refine beS ?_ GE116.out | refine beS ?_ GE131.out | refine beS ?_ GE135.out | refine beS ?_ GE139.out) | exact HB.out)⟩
    (try clear BK116)
    (try clear BK131)
    (try clear BK135)
    (try clear BK139)
    (try clear HB)
    generalize ((w24.setCell ⟨gb139, 0, none⟩ (.int .i64 t136)).setCell ⟨gb139, 1, none⟩ (.int .i64 t137)) = w34 at n0_ n1_ n2_ n3_ n4_ ⊢
    have BK116 := n0_
    have BK131 := n1_
    have BK135 := n2_
    have BK139 := n3_
    have HB := n4_
    clear n0_ n1_ n2_ n3_ n4_
    have n0_ := aM (blk_drew BK116.out)
    have n1_ := aM (blk_drew BK131.out)
    have n2_ := aM (blk_drew BK135.out)
    have n3_ := aM (blk_drew BK139.out)
    have n4_ := aM (below_drew1 HB.out)
    clear BK116
    clear BK131
    clear BK135
    clear BK139
    clear HB
    have BK116 := n0_
    have BK131 := n1_
    have BK135 := n2_
    have BK139 := n3_
    have HB := n4_
    clear n0_ n1_ n2_ n3_ n4_
    refine start_ (n := 9) (S := fun w' => cb14t w' gb131 (.int .i64 t117) (.int .i64 t118) (.int .i64 t119) (.int .i64 t120) (.bool t121) (.int .i64 t122) (.int .i64 t123) (.int .i64 t124) (.int .i64 t125) (.int .i64 t126) (.int .i64 t127) (.int .i64 t128) (.int .i64 t129) (.int .i64 t130) (cb14 w' gb116 (.int .i64 t102) (.int .i64 t103) (.int .i64 t104) (.int .i64 t105) (.bool t106) (.int .i64 t107) (.int .i64 t108) (.int .i64 t109) (.int .i64 t110) (.int .i64 t111) (.int .i64 t112) (.int .i64 t113) (.int .i64 t114) (.int .i64 t115))) (ds := []) #[nn,nn,nn,nn,nn,nn,nn,nn,nn] (by kernel_rfl) rfl rfl ⟨(blk_cell BK131.out 0).trans rfl, (blk_cell BK131.out 1).trans rfl, (blk_cell BK131.out 2).trans rfl, (blk_cell BK131.out 3).trans rfl, (blk_cell BK131.out 4).trans rfl, (blk_cell BK131.out 5).trans rfl, (blk_cell BK131.out 6).trans rfl, (blk_cell BK131.out 7).trans rfl, (blk_cell BK131.out 8).trans rfl, (blk_cell BK131.out 9).trans rfl, (blk_cell BK131.out 10).trans rfl, (blk_cell BK131.out 11).trans rfl, (blk_cell BK131.out 12).trans rfl, (blk_cell BK131.out 13).trans rfl, (blk_cell BK116.out 0).trans rfl, (blk_cell BK116.out 1).trans rfl, (blk_cell BK116.out 2).trans rfl, (blk_cell BK116.out 3).trans rfl, (blk_cell BK116.out 4).trans rfl, (blk_cell BK116.out 5).trans rfl, (blk_cell BK116.out 6).trans rfl, (blk_cell BK116.out 7).trans rfl, (blk_cell BK116.out 8).trans rfl, (blk_cell BK116.out 9).trans rfl, (blk_cell BK116.out 10).trans rfl, (blk_cell BK116.out 11).trans rfl, (blk_cell BK116.out 12).trans rfl, (blk_cell BK116.out 13).trans rfl⟩ (fun hHeld => ?_); refine with_tabW laws_FnSpent.tab7 laws_FnSpent.bits7 (fun HT_ HW_ => ?_)
    generalize w34.drew = w35 at BK116 BK131 BK135 BK139 HB hHeld ⊢
    refine take_ (i := 0) (N := some 27) (v := ?_) (a' := ?_) #[yy,nn,nn,nn,nn,nn,nn,nn,nn] rfl rfl (take_ofW HT_.out HW_.out (by kernel_rfl)) (fun _ _ _ h => h) (Or.inl ⟨by rfl, ?_⟩) hHeld ?_ ?_
    rotate_left
    · rintro w' ⟨s0, s1, s2, s3, s4, s5, s6, s7, s8, s9, s10, s11, s12, s13, s14, s15, s16, s17, s18, s19, s20, s21, s22, s23, s24, s25, s26, s27⟩
      go_simp
      with_reducible rfl
    rotate_left
    · simp only [Act.put, List.setIfInBounds_toArray, List.set_cons_zero, List.set_cons_succ, i64_w, i32_w]
      rfl
    refine take_ (i := 1) (N := some 28) (v := ?_) (a' := ?_) #[yy,yy,nn,nn,nn,nn,nn,nn,nn] rfl rfl (take_ofW HT_.out HW_.out (by kernel_rfl)) (fun _ _ _ h => h) (Or.inl ⟨by rfl, ?_⟩) hHeld ?_ ?_
    rotate_left
    · rintro w' ⟨s0, s1, s2, s3, s4, s5, s6, s7, s8, s9, s10, s11, s12, s13, s14, s15, s16, s17, s18, s19, s20, s21, s22, s23, s24, s25, s26, s27⟩
      go_simp
      with_reducible rfl
    rotate_left
    · simp only [Act.put, List.setIfInBounds_toArray, List.set_cons_zero, List.set_cons_succ, i64_w, i32_w]
      rfl
    refine one_ (i := 2) (N := some 29) #[yy,yy,yy,nn,nn,nn,nn,nn,nn] rfl rfl (one_of HT_.out (by kernel_rfl)) (by decide) (fun K hK => ?_)
    refine goes_ Try.func45 (by kernel_rfl) rfl #[.agg #[.int .i64 t102, .int .i64 t103, .int .i64 t104, .int .i64 t105, .bool t106, .int .i64 t107, .int .i64 t108, .int .i64 t109, .int .i64 t110, .int .i64 t111, .int .i64 t112, .int .i64 t113, .int .i64 t114, .int .i64 t115]] (by rfl) rfl rfl (by (try simp only [List.map_toArray, List.map_cons, List.map_nil]); first | done | rfl | (simp only [List.length_drop, List.length_take]; rfl)) ?_
    with_reducible refine (spec_DueSpend.calls t102 t103 t104 t105 t106 t107 t108 t109 t110 t111 t112 t113 t114 t115 t140 t141 t142 t143 t144 t145 t146 t147 t148 t149 t150 t151 t152 t153 _ A29.out).mono ?_
    rintro e w36 ⟨rfl, hb⟩
    refine ⟨_, rfl, ?_⟩
    have n0_ := aM (blk_below (g := gb116) (o := .cells (tk14 t102 t103 t104 t105 t106 t107 t108 t109 t110 t111 t112 t113 t114 t115) 24 (0, 0)) (by (with_reducible repeat (first | apply bkD | apply bkd | apply bkA)); exact BK116.out) hb)
    have n1_ := aM (blk_below (g := gb131) (o := .cells (tk14 t117 t118 t119 t120 t121 t122 t123 t124 t125 t126 t127 t128 t129 t130) 24 (0, 0)) (by (with_reducible repeat (first | apply bkD | apply bkd | apply bkA)); exact BK131.out) hb)
    have n2_ := aM (blk_below (g := gb135) (o := .cells #[.int .i64 t132, .int .i64 t133] 53 (0, 0)) (by (with_reducible repeat (first | apply bkD | apply bkd | apply bkA)); exact BK135.out) hb)
    have n3_ := aM (blk_below (g := gb139) (o := .cells #[.int .i64 t136, .int .i64 t137] 53 (0, 0)) (by (with_reducible repeat (first | apply bkD | apply bkd | apply bkA)); exact BK139.out) hb)
    have n4_ := aM (below_step (by repeat (first | (with_reducible first | exact HB.out | apply beA | apply beD | apply bed | refine beS ?_ GE116.out | refine beS ?_ GE131.out | refine beS ?_ GE135.out | refine beS ?_ GE139.out) | exact HB.out)) hb)
    clear BK116
    clear BK131
    clear BK135
    clear BK139
    clear HB
    have BK116 := n0_
    have BK131 := n1_
    have BK135 := n2_
    have BK139 := n3_
    have HB := n4_
    clear n0_ n1_ n2_ n3_ n4_
    (try clear hb)
    (try clear hb2)
    (try clear hk)
    (try clear hi)
    refine hK.out _ _ ⟨(blk_cell BK131.out 0).trans rfl, (blk_cell BK131.out 1).trans rfl, (blk_cell BK131.out 2).trans rfl, (blk_cell BK131.out 3).trans rfl, (blk_cell BK131.out 4).trans rfl, (blk_cell BK131.out 5).trans rfl, (blk_cell BK131.out 6).trans rfl, (blk_cell BK131.out 7).trans rfl, (blk_cell BK131.out 8).trans rfl, (blk_cell BK131.out 9).trans rfl, (blk_cell BK131.out 10).trans rfl, (blk_cell BK131.out 11).trans rfl, (blk_cell BK131.out 12).trans rfl, (blk_cell BK131.out 13).trans rfl, (blk_cell BK116.out 0).trans rfl, (blk_cell BK116.out 1).trans rfl, (blk_cell BK116.out 2).trans rfl, (blk_cell BK116.out 3).trans rfl, (blk_cell BK116.out 4).trans rfl, (blk_cell BK116.out 5).trans rfl, (blk_cell BK116.out 6).trans rfl, (blk_cell BK116.out 7).trans rfl, (blk_cell BK116.out 8).trans rfl, (blk_cell BK116.out 9).trans rfl, (blk_cell BK116.out 10).trans rfl, (blk_cell BK116.out 11).trans rfl, (blk_cell BK116.out 12).trans rfl, (blk_cell BK116.out 13).trans rfl⟩ (fun hHeld => ?_)
    clear hK K
    refine norm_ (a' := ?_) ?_ ?_
    rotate_left
    · show Act.put _ (some 29) _ = _
      simp only [Act.put, List.setIfInBounds_toArray, List.set_cons_zero, List.set_cons_succ, i64_w, i32_w]
      rfl
    refine pure_ (i := 3) (N := some 30) (v := ?_) (a' := ?_) #[yy,yy,yy,yy,nn,nn,nn,nn,nn] rfl rfl (any_of HT_.out (by kernel_rfl)) (fun _ _ _ h => h) (Or.inl ⟨by rfl, ?_⟩) ?_ ?_
    rotate_left
    · intro w'
      go_simp
      with_reducible rfl
    rotate_left
    · simp only [Act.put, List.setIfInBounds_toArray, List.set_cons_zero, List.set_cons_succ, i64_w, i32_w]
      rfl
    refine pure_ (i := 4) (N := some 31) (v := ?_) (a' := ?_) #[yy,yy,yy,yy,yy,nn,nn,nn,nn] rfl rfl (any_of HT_.out (by kernel_rfl)) (fun _ _ _ h => h) (Or.inl ⟨by rfl, ?_⟩) ?_ ?_
    rotate_left
    · intro w'
      go_simp
      with_reducible rfl
    rotate_left
    · simp only [Act.put, List.setIfInBounds_toArray, List.set_cons_zero, List.set_cons_succ, i64_w, i32_w]
      rfl
    refine pure_ (i := 5) (N := some 32) (v := ?_) (a' := ?_) #[yy,yy,yy,yy,yy,yy,nn,nn,nn] rfl rfl (any_of HT_.out (by kernel_rfl)) (fun _ _ _ h => h) (Or.inl ⟨by rfl, ?_⟩) ?_ ?_
    rotate_left
    · intro w'
      go_simp
      with_reducible rfl
    rotate_left
    · simp only [Act.put, List.setIfInBounds_toArray, List.set_cons_zero, List.set_cons_succ, i64_w, i32_w]
      rfl
    refine pure_ (i := 6) (N := some 33) (v := ?_) (a' := ?_) #[yy,yy,yy,yy,yy,yy,yy,nn,nn] rfl rfl (any_of HT_.out (by kernel_rfl)) (fun _ _ _ h => h) (Or.inl ⟨by rfl, ?_⟩) ?_ ?_
    rotate_left
    · intro w'
      go_simp
      with_reducible rfl
    rotate_left
    · simp only [Act.put, List.setIfInBounds_toArray, List.set_cons_zero, List.set_cons_succ, i64_w, i32_w]
      rfl
    refine pure_ (i := 7) (N := some 34) (v := ?_) (a' := ?_) #[yy,yy,yy,yy,yy,yy,yy,yy,nn] rfl rfl (any_of HT_.out (by kernel_rfl)) (fun _ _ _ h => h) (Or.inl ⟨by rfl, ?_⟩) ?_ ?_
    rotate_left
    · intro w'
      go_simp
      with_reducible rfl
    rotate_left
    · simp only [Act.put, List.setIfInBounds_toArray, List.set_cons_zero, List.set_cons_succ, i64_w, i32_w]
      rfl
    refine pure_ (i := 8) (N := some 35) (v := ?_) (a' := ?_) #[yy,yy,yy,yy,yy,yy,yy,yy,yy] rfl rfl (any_of HT_.out (by kernel_rfl)) (fun _ _ _ h => h) (Or.inl ⟨by rfl, ?_⟩) ?_ ?_
    rotate_left
    · intro w'
      go_simp
      with_reducible rfl
    rotate_left
    · simp only [Act.put, List.setIfInBounds_toArray, List.set_cons_zero, List.set_cons_succ, i64_w, i32_w]
      rfl
    refine done_ (done_of HT_.out (by kernel_rfl)) ?_
    try go_wp2
    go_meet
    case rel => exact ⟨_, ((t134 != t138)), (by first | rfl | (simp; done) | (simp [*]; done)), H', ⟨by first | omega | exact Nat.le_refl _⟩, ⟨by (with_reducible repeat (first | apply bkD | apply bkd | apply bkA)); exact BK116.out⟩, ⟨by (with_reducible repeat (first | apply bkD | apply bkd | apply bkA)); exact BK131.out⟩, ⟨by (with_reducible repeat (first | apply bkD | apply bkd | apply bkA)); exact BK135.out⟩, ⟨by (with_reducible repeat (first | apply bkD | apply bkd | apply bkA)); exact BK139.out⟩, ⟨by repeat (first | (with_reducible first | exact HB.out | apply beA | apply beD | apply bed | refine beS ?_ GE116.out | refine beS ?_ GE131.out | refine beS ?_ GE135.out | refine beS ?_ GE139.out) | exact HB.out)⟩⟩
  case rest =>
    clear HC8
    try clear c1
    try clear c2
    try clear p2
    try clear c3
    try clear c4
    try clear c9
    try clear c14
    try clear c19
    try clear c20
    try clear c25
    try clear c26
    try clear c27
    try clear c30
    try clear c30b0
    try clear hcz11_0
    try clear hcz11_1
    try clear hcz11_10
    try clear hcz11_11
    try clear hcz11_12
    try clear hcz11_13
    try clear hcz11_2
    try clear hcz11_3
    try clear hcz11_4
    try clear hcz11_5
    try clear hcz11_6
    try clear hcz11_7
    try clear hcz11_8
    try clear hcz11_9
    try clear hcz15_0
    try clear hcz15_1
    try clear hcz15_10
    try clear hcz15_11
    try clear hcz15_12
    try clear hcz15_13
    try clear hcz15_2
    try clear hcz15_3
    try clear hcz15_4
    try clear hcz15_5
    try clear hcz15_6
    try clear hcz15_7
    try clear hcz15_8
    try clear hcz15_9
    try clear hcz16_0
    try clear hcz16_1
    try clear hcz16_10
    try clear hcz16_11
    try clear hcz16_12
    try clear hcz16_13
    try clear hcz16_2
    try clear hcz16_3
    try clear hcz16_4
    try clear hcz16_5
    try clear hcz16_6
    try clear hcz16_7
    try clear hcz16_8
    try clear hcz16_9
    try clear hcz21_0
    try clear hcz21_1
    try clear hcz22_0
    try clear hcz22_1
    try clear hcz22_10
    try clear hcz22_11
    try clear hcz22_12
    try clear hcz22_13
    try clear hcz22_2
    try clear hcz22_3
    try clear hcz22_4
    try clear hcz22_5
    try clear hcz22_6
    try clear hcz22_7
    try clear hcz22_8
    try clear hcz22_9
    try clear hcz28_0
    try clear hcz28_1
    try clear hfz11_0
    try clear hfz15_0
    try clear hfz16_0
    try clear hfz21_0
    try clear hfz22_0
    try clear hfz28_0
    obtain ⟨kq, x35_7, rfl, HA, HJ7, BK116, BK131, BK135, BK139, HB⟩ := hcut
    cases kq with
    | zero => exact absurd HA.out (by simp [laws_FnSpent.j0])
    | succ kj7 =>
      have H := HA.out
      clear HA
      simp only [laws_FnSpent.j0] at H
      by_cases c37 : x35_7 = true
      · subst c37
        have H1 : (some false) = some r := by rw [if_pos rfl] at H; exact H
        clear H
        have H := H1
        clear H1
        obtain rfl := Option.some.inj H
        go_wp2
        go_ret
        exact ⟨by first | rfl | (simp <;> rfl) | (simp [*] <;> rfl), by repeat (first | (with_reducible first | exact HB.out | apply beA | apply beD | apply bed | refine beS ?_ GE116.out | refine beS ?_ GE131.out | refine beS ?_ GE135.out | refine beS ?_ GE139.out) | exact HB.out)⟩
      replace c37 := Bool.eq_false_iff.mpr c37
      subst c37
      have H1 : (if t134 = true then (laws_FnSpent.l0 kj7 t109 0 t102 t103 t104 t105 t106 t107 t108 t109 t110 t111 t112 t113 t114 t115 t117 t118 t119 t120 t121 t122 t123 t124 t125 t126 t127 t128 t129 t130 t132 t133) else (if (t117 == t102 && (t118 == t103 && (t119 == t104 && (t120 == t105 && (t121 == t106 && (t122 == t107 && (t123 == t108 && (t124 == t109 && (t125 == t110 && (t126 == t111 && (t127 == t112 && (t128 == t113 && (t129 == t114 && (t130 == t115)))))))))))))) = true then (some (t132 == 0 && (t133 == 0))) else (some false))) = some r := by rw [if_neg (show ¬ (false = true) by decide)] at H; exact H
      clear H
      have H := H1
      clear H1
      by_cases c38 : t134 = true
      · subst c38
        have H1 : (laws_FnSpent.l0 kj7 t109 0 t102 t103 t104 t105 t106 t107 t108 t109 t110 t111 t112 t113 t114 t115 t117 t118 t119 t120 t121 t122 t123 t124 t125 t126 t127 t128 t129 t130 t132 t133) = some r := by rw [if_pos rfl] at H; exact H
        clear H
        have H := H1
        clear H1
        have H' := Aside0.mk H
        clear H
        have hnb39 := NB116_131.out
        have hnc39 := NB131_116.out
        have hnb40 := NB116_135.out
        have hnc40 := NB135_116.out
        have hnb41 := NB116_139.out
        have hnc41 := NB139_116.out
        obtain ⟨hcz42_0, hcz42_1, hcz42_2, hcz42_3, hcz42_4, hcz42_5, hcz42_6, hcz42_7, hcz42_8, hcz42_9, hcz42_10, hcz42_11, hcz42_12, hcz42_13⟩ := cz14 BK116.out
        have hfz42_0 := blk_frozen BK116.out
        go_wp2
        go_loopg [10] kj7 (fun kq v10 w' => ∃ (x10_2 : Int) (x117000_2 : Int) (x117001_2 : Int) (x117002_2 : Int) (x117003_2 : Int) (x117004_2 : Bool) (x117005_2 : Int) (x117006_2 : Int) (x117007_2 : Int) (x117008_2 : Int) (x117009_2 : Int) (x117010_2 : Int) (x117011_2 : Int) (x117012_2 : Int) (x117013_2 : Int), v10 = .int .i64 x10_2 ∧ Aside0 (laws_FnSpent.l0 kq t109 x10_2 x117000_2 x117001_2 x117002_2 x117003_2 x117004_2 x117005_2 x117006_2 x117007_2 x117008_2 x117009_2 x117010_2 x117011_2 x117012_2 x117013_2 t117 t118 t119 t120 t121 t122 t123 t124 t125 t126 t127 t128 t129 t130 t132 t133 = some r) ∧ Aside0 (kq ≤ kj7) ∧ Aside0 (w'.heap[gb116]? = some (.cells #[.int .i64 x117000_2, .int .i64 x117001_2, .int .i64 x117002_2, .int .i64 x117003_2, .bool x117004_2, .int .i64 x117005_2, .int .i64 x117006_2, .int .i64 x117007_2, .int .i64 x117008_2, .int .i64 x117009_2, .int .i64 x117010_2, .int .i64 x117011_2, .int .i64 x117012_2, .int .i64 x117013_2] 24 (0, 0))) ∧ Aside0 (w'.heap[gb131]? = some (.cells #[.int .i64 t117, .int .i64 t118, .int .i64 t119, .int .i64 t120, .bool t121, .int .i64 t122, .int .i64 t123, .int .i64 t124, .int .i64 t125, .int .i64 t126, .int .i64 t127, .int .i64 t128, .int .i64 t129, .int .i64 t130] 24 (0, 0))) ∧ Aside0 (w'.heap[gb135]? = some (.cells #[.int .i64 t132, .int .i64 t133] 53 (0, 0))) ∧ Aside0 (w'.heap[gb139]? = some (.cells #[.int .i64 t136, .int .i64 t137] 53 (0, 0))) ∧ Aside0 (Below w.heap.size w w'))
        case atStart => exact ⟨(0), (t102), (t103), (t104), (t105), (t106), (t107), (t108), (t109), (t110), (t111), (t112), (t113), (t114), (t115), (by first | rfl | (simp; done) | (simp [*]; done)), H', ⟨Nat.le_refl _⟩, ⟨by (with_reducible repeat (first | apply bkD | apply bkd | apply bkA)); exact BK116.out⟩, ⟨by (with_reducible repeat (first | apply bkD | apply bkd | apply bkA)); exact BK131.out⟩, ⟨by (with_reducible repeat (first | apply bkD | apply bkd | apply bkA)); exact BK135.out⟩, ⟨by (with_reducible repeat (first | apply bkD | apply bkd | apply bkA)); exact BK139.out⟩, ⟨by repeat (first | (with_reducible first | exact HB.out | apply beA | apply beD | apply bed | refine beS ?_ GE116.out | refine beS ?_ GE131.out | refine beS ?_ GE135.out | refine beS ?_ GE139.out) | exact HB.out)⟩⟩
        case round =>
          clear H'
          try clear c1
          try clear c2
          try clear p2
          try clear c3
          try clear c4
          try clear c9
          try clear c14
          try clear c19
          try clear c20
          try clear c25
          try clear c26
          try clear c27
          try clear c30
          try clear c30b0
          try clear c37
          try clear c38
          try clear c39
          try clear c40
          try clear c41
          try clear c42
          try clear hcz11_0
          try clear hcz11_1
          try clear hcz11_10
          try clear hcz11_11
          try clear hcz11_12
          try clear hcz11_13
          try clear hcz11_2
          try clear hcz11_3
          try clear hcz11_4
          try clear hcz11_5
          try clear hcz11_6
          try clear hcz11_7
          try clear hcz11_8
          try clear hcz11_9
          try clear hcz15_0
          try clear hcz15_1
          try clear hcz15_10
          try clear hcz15_11
          try clear hcz15_12
          try clear hcz15_13
          try clear hcz15_2
          try clear hcz15_3
          try clear hcz15_4
          try clear hcz15_5
          try clear hcz15_6
          try clear hcz15_7
          try clear hcz15_8
          try clear hcz15_9
          try clear hcz16_0
          try clear hcz16_1
          try clear hcz16_10
          try clear hcz16_11
          try clear hcz16_12
          try clear hcz16_13
          try clear hcz16_2
          try clear hcz16_3
          try clear hcz16_4
          try clear hcz16_5
          try clear hcz16_6
          try clear hcz16_7
          try clear hcz16_8
          try clear hcz16_9
          try clear hcz21_0
          try clear hcz21_1
          try clear hcz22_0
          try clear hcz22_1
          try clear hcz22_10
          try clear hcz22_11
          try clear hcz22_12
          try clear hcz22_13
          try clear hcz22_2
          try clear hcz22_3
          try clear hcz22_4
          try clear hcz22_5
          try clear hcz22_6
          try clear hcz22_7
          try clear hcz22_8
          try clear hcz22_9
          try clear hcz28_0
          try clear hcz28_1
          try clear hcz42_0
          try clear hcz42_1
          try clear hcz42_10
          try clear hcz42_11
          try clear hcz42_12
          try clear hcz42_13
          try clear hcz42_2
          try clear hcz42_3
          try clear hcz42_4
          try clear hcz42_5
          try clear hcz42_6
          try clear hcz42_7
          try clear hcz42_8
          try clear hcz42_9
          try clear hfz11_0
          try clear hfz15_0
          try clear hfz16_0
          try clear hfz21_0
          try clear hfz22_0
          try clear hfz28_0
          try clear hfz42_0
          try clear p2
          obtain ⟨x10_2, x117000_2, x117001_2, x117002_2, x117003_2, x117004_2, x117005_2, x117006_2, x117007_2, x117008_2, x117009_2, x117010_2, x117011_2, x117012_2, x117013_2, rfl, HA, HK2, BK116, BK131, BK135, BK139, HB⟩ := hrel
          cases gk with
          | zero => exact absurd HA.out (by simp [laws_FnSpent.l0])
          | succ k2 =>
            have H := HA.out
            clear HA
            simp only [laws_FnSpent.l0] at H
            by_cases c43 : x10_2 < (wrap64 (x117005_2 + 1))
            · rw [if_pos c43] at H
              have c43b0 : decide (x10_2 < (wrap64 (x117005_2 + 1))) = true := decide_eq_true c43
              clear c43
              replace H := Option.bind_eq_some_iff.mp H
              obtain ⟨⟨t154, t155, t156, t157, t158, t159, t160, t161, t162, t163, t164, t165, t166, t167⟩, A440, H⟩ := H
              replace H : (laws_FnSpent.l0 k2 t109 (wrap64 (x10_2 + 1)) t154 t155 t156 t157 t158 t159 t160 t161 t162 t163 t164 t165 t166 t167 t117 t118 t119 t120 t121 t122 t123 t124 t125 t126 t127 t128 t129 t130 t132 t133) = some r := H
              have A44 := Aside0.mk A440
              clear A440
              have H' := Aside0.mk H
              clear H
              have hnb45 := NB116_131.out
              have hnc45 := NB131_116.out
              have hnb46 := NB116_135.out
              have hnc46 := NB135_116.out
              have hnb47 := NB116_139.out
              have hnc47 := NB139_116.out
              obtain ⟨hcz48_0, hcz48_1, hcz48_2, hcz48_3, hcz48_4, hcz48_5, hcz48_6, hcz48_7, hcz48_8, hcz48_9, hcz48_10, hcz48_11, hcz48_12, hcz48_13⟩ := cz14 BK116.out
              have hfz48_0 := blk_frozen BK116.out
              go_wp2_with (first | ((with_reducible refine gate_callee (f := 42) rfl ?_); refine goesL_ (some 56) rfl rfl Try.func42 (by kernel_rfl) rfl #[.agg #[.int .i64 x117000_2, .int .i64 x117001_2, .int .i64 x117002_2, .int .i64 x117003_2, .bool x117004_2, .int .i64 x117005_2, .int .i64 x117006_2, .int .i64 x117007_2, .int .i64 x117008_2, .int .i64 x117009_2, .int .i64 x117010_2, .int .i64 x117011_2, .int .i64 x117012_2, .int .i64 x117013_2]] rfl (by (try simp only [List.map_toArray, List.map_cons, List.map_nil]); first | done | rfl | (simp only [List.length_drop, List.length_take]; rfl)) ?_; (with_reducible refine (impl_DueSpend.calls x117000_2 x117001_2 x117002_2 x117003_2 x117004_2 x117005_2 x117006_2 x117007_2 x117008_2 x117009_2 x117010_2 x117011_2 x117012_2 x117013_2 t154 t155 t156 t157 t158 t159 t160 t161 t162 t163 t164 t165 t166 t167 _ A44.out).mono ?_); rintro e w49 ⟨rfl, hb⟩; refine ⟨_, rfl, ?_⟩; have n0_ := aM (blk_below (g := gb116) (o := .cells (tk14 x117000_2 x117001_2 x117002_2 x117003_2 x117004_2 x117005_2 x117006_2 x117007_2 x117008_2 x117009_2 x117010_2 x117011_2 x117012_2 x117013_2) 24 (0, 0)) (by (with_reducible repeat (first | apply bkD | apply bkd | apply bkA)); exact BK116.out) hb); have n1_ := aM (blk_below (g := gb131) (o := .cells (tk14 t117 t118 t119 t120 t121 t122 t123 t124 t125 t126 t127 t128 t129 t130) 24 (0, 0)) (by (with_reducible repeat (first | apply bkD | apply bkd | apply bkA)); exact BK131.out) hb); have n2_ := aM (blk_below (g := gb135) (o := .cells #[.int .i64 t132, .int .i64 t133] 53 (0, 0)) (by (with_reducible repeat (first | apply bkD | apply bkd | apply bkA)); exact BK135.out) hb); have n3_ := aM (blk_below (g := gb139) (o := .cells #[.int .i64 t136, .int .i64 t137] 53 (0, 0)) (by (with_reducible repeat (first | apply bkD | apply bkd | apply bkA)); exact BK139.out) hb); have n4_ := aM (below_step (by repeat (first | (with_reducible first | exact HB.out | apply beA | apply beD | apply bed | refine beS ?_ GE116.out | refine beS ?_ GE131.out | refine beS ?_ GE135.out | refine beS ?_ GE139.out) | exact HB.out)) hb); clear BK116; clear BK131; clear BK135; clear BK139; clear HB; have BK116 := n0_; have BK131 := n1_; have BK135 := n2_; have BK139 := n3_; have HB := n4_; clear n0_ n1_ n2_ n3_ n4_; (try clear hb); (try clear hb2); (try clear hk); (try clear hi); obtain ⟨hcz50_0, hcz50_1, hcz50_2, hcz50_3, hcz50_4, hcz50_5, hcz50_6, hcz50_7, hcz50_8, hcz50_9, hcz50_10, hcz50_11, hcz50_12, hcz50_13⟩ := cz14 BK116.out; have hfz50_0 := blk_frozen BK116.out))
              go_roundg k2
              case measure => have := HJ7.out; have := HK2.out; omega
              case rel => exact ⟨(wrap64 (x10_2 + 1)), (t154), (t155), (t156), (t157), (t158), (t159), (t160), (t161), (t162), (t163), (t164), (t165), (t166), (t167), (by first | rfl | (simp; done) | (simp [*]; done)), H', ⟨by have := HJ7.out; have := HK2.out; omega⟩, ⟨by (with_reducible repeat (first | apply bkD | apply bkd | apply bkA)); refine blk_put (cs := tk14 t154 t155 t156 t157 t158 t159 t160 t161 t162 t163 t164 t165 t166 x117013_2) ?_ 13 _ rfl; (with_reducible repeat (first | apply bkD | apply bkd | apply bkA)); refine blk_put (cs := tk14 t154 t155 t156 t157 t158 t159 t160 t161 t162 t163 t164 t165 x117012_2 x117013_2) ?_ 12 _ rfl; (with_reducible repeat (first | apply bkD | apply bkd | apply bkA)); refine blk_put (cs := tk14 t154 t155 t156 t157 t158 t159 t160 t161 t162 t163 t164 x117011_2 x117012_2 x117013_2) ?_ 11 _ rfl; (with_reducible repeat (first | apply bkD | apply bkd | apply bkA)); refine blk_put (cs := tk14 t154 t155 t156 t157 t158 t159 t160 t161 t162 t163 x117010_2 x117011_2 x117012_2 x117013_2) ?_ 10 _ rfl; (with_reducible repeat (first | apply bkD | apply bkd | apply bkA)); refine blk_put (cs := tk14 t154 t155 t156 t157 t158 t159 t160 t161 t162 x117009_2 x117010_2 x117011_2 x117012_2 x117013_2) ?_ 9 _ rfl; (with_reducible repeat (first | apply bkD | apply bkd | apply bkA)); refine blk_put (cs := tk14 t154 t155 t156 t157 t158 t159 t160 t161 x117008_2 x117009_2 x117010_2 x117011_2 x117012_2 x117013_2) ?_ 8 _ rfl; (with_reducible repeat (first | apply bkD | apply bkd | apply bkA)); refine blk_put (cs := tk14 t154 t155 t156 t157 t158 t159 t160 x117007_2 x117008_2 x117009_2 x117010_2 x117011_2 x117012_2 x117013_2) ?_ 7 _ rfl; (with_reducible repeat (first | apply bkD | apply bkd | apply bkA)); refine blk_put (cs := tk14 t154 t155 t156 t157 t158 t159 x117006_2 x117007_2 x117008_2 x117009_2 x117010_2 x117011_2 x117012_2 x117013_2) ?_ 6 _ rfl; (with_reducible repeat (first | apply bkD | apply bkd | apply bkA)); refine blk_put (cs := tk14 t154 t155 t156 t157 t158 x117005_2 x117006_2 x117007_2 x117008_2 x117009_2 x117010_2 x117011_2 x117012_2 x117013_2) ?_ 5 _ rfl; (with_reducible repeat (first | apply bkD | apply bkd | apply bkA)); refine blk_put (cs := tk14 t154 t155 t156 t157 x117004_2 x117005_2 x117006_2 x117007_2 x117008_2 x117009_2 x117010_2 x117011_2 x117012_2 x117013_2) ?_ 4 _ rfl; (with_reducible repeat (first | apply bkD | apply bkd | apply bkA)); refine blk_put (cs := tk14 t154 t155 t156 x117003_2 x117004_2 x117005_2 x117006_2 x117007_2 x117008_2 x117009_2 x117010_2 x117011_2 x117012_2 x117013_2) ?_ 3 _ rfl; (with_reducible repeat (first | apply bkD | apply bkd | apply bkA)); refine blk_put (cs := tk14 t154 t155 x117002_2 x117003_2 x117004_2 x117005_2 x117006_2 x117007_2 x117008_2 x117009_2 x117010_2 x117011_2 x117012_2 x117013_2) ?_ 2 _ rfl; (with_reducible repeat (first | apply bkD | apply bkd | apply bkA)); refine blk_put (cs := tk14 t154 x117001_2 x117002_2 x117003_2 x117004_2 x117005_2 x117006_2 x117007_2 x117008_2 x117009_2 x117010_2 x117011_2 x117012_2 x117013_2) ?_ 1 _ rfl; (with_reducible repeat (first | apply bkD | apply bkd | apply bkA)); refine blk_put (cs := tk14 x117000_2 x117001_2 x117002_2 x117003_2 x117004_2 x117005_2 x117006_2 x117007_2 x117008_2 x117009_2 x117010_2 x117011_2 x117012_2 x117013_2) ?_ 0 _ rfl; (with_reducible repeat (first | apply bkD | apply bkd | apply bkA)); exact BK116.out⟩, ⟨by (with_reducible repeat (first | apply bkD | apply bkd | apply bkA)); refine blk_far ?_ NB131_116.out _; (with_reducible repeat (first | apply bkD | apply bkd | apply bkA)); refine blk_far ?_ NB131_116.out _; (with_reducible repeat (first | apply bkD | apply bkd | apply bkA)); refine blk_far ?_ NB131_116.out _; (with_reducible repeat (first | apply bkD | apply bkd | apply bkA)); refine blk_far ?_ NB131_116.out _; (with_reducible repeat (first | apply bkD | apply bkd | apply bkA)); refine blk_far ?_ NB131_116.out _; (with_reducible repeat (first | apply bkD | apply bkd | apply bkA)); refine blk_far ?_ NB131_116.out _; (with_reducible repeat (first | apply bkD | apply bkd | apply bkA)); refine blk_far ?_ NB131_116.out _; (with_reducible repeat (first | apply bkD | apply bkd | apply bkA)); refine blk_far ?_ NB131_116.out _; (with_reducible repeat (first | apply bkD | apply bkd | apply bkA)); refine blk_far ?_ NB131_116.out _; (with_reducible repeat (first | apply bkD | apply bkd | apply bkA)); refine blk_far ?_ NB131_116.out _; (with_reducible repeat (first | apply bkD | apply bkd | apply bkA)); refine blk_far ?_ NB131_116.out _; (with_reducible repeat (first | apply bkD | apply bkd | apply bkA)); refine blk_far ?_ NB131_116.out _; (with_reducible repeat (first | apply bkD | apply bkd | apply bkA)); refine blk_far ?_ NB131_116.out _; (with_reducible repeat (first | apply bkD | apply bkd | apply bkA)); refine blk_far ?_ NB131_116.out _; (with_reducible repeat (first | apply bkD | apply bkd | apply bkA)); exact BK131.out⟩, ⟨by (with_reducible repeat (first | apply bkD | apply bkd | apply bkA)); refine blk_far ?_ NB135_116.out _; (with_reducible repeat (first | apply bkD | apply bkd | apply bkA)); refine blk_far ?_ NB135_116.out _; (with_reducible repeat (first | apply bkD | apply bkd | apply bkA)); refine blk_far ?_ NB135_116.out _; (with_reducible repeat (first | apply bkD | apply bkd | apply bkA)); refine blk_far ?_ NB135_116.out _; (with_reducible repeat (first | apply bkD | apply bkd | apply bkA)); refine blk_far ?_ NB135_116.out _; (with_reducible repeat (first | apply bkD | apply bkd | apply bkA)); refine blk_far ?_ NB135_116.out _; (with_reducible repeat (first | apply bkD | apply bkd | apply bkA)); refine blk_far ?_ NB135_116.out _; (with_reducible repeat (first | apply bkD | apply bkd | apply bkA)); refine blk_far ?_ NB135_116.out _; (with_reducible repeat (first | apply bkD | apply bkd | apply bkA)); refine blk_far ?_ NB135_116.out _; (with_reducible repeat (first | apply bkD | apply bkd | apply bkA)); refine blk_far ?_ NB135_116.out _; (with_reducible repeat (first | apply bkD | apply bkd | apply bkA)); refine blk_far ?_ NB135_116.out _; (with_reducible repeat (first | apply bkD | apply bkd | apply bkA)); refine blk_far ?_ NB135_116.out _; (with_reducible repeat (first | apply bkD | apply bkd | apply bkA)); refine blk_far ?_ NB135_116.out _; (with_reducible repeat (first | apply bkD | apply bkd | apply bkA)); refine blk_far ?_ NB135_116.out _; (with_reducible repeat (first | apply bkD | apply bkd | apply bkA)); exact BK135.out⟩, ⟨by (with_reducible repeat (first | apply bkD | apply bkd | apply bkA)); refine blk_far ?_ NB139_116.out _; (with_reducible repeat (first | apply bkD | apply bkd | apply bkA)); refine blk_far ?_ NB139_116.out _; (with_reducible repeat (first | apply bkD | apply bkd | apply bkA)); refine blk_far ?_ NB139_116.out _; (with_reducible repeat (first | apply bkD | apply bkd | apply bkA)); refine blk_far ?_ NB139_116.out _; (with_reducible repeat (first | apply bkD | apply bkd | apply bkA)); refine blk_far ?_ NB139_116.out _; (with_reducible repeat (first | apply bkD | apply bkd | apply bkA)); refine blk_far ?_ NB139_116.out _; (with_reducible repeat (first | apply bkD | apply bkd | apply bkA)); refine blk_far ?_ NB139_116.out _; (with_reducible repeat (first | apply bkD | apply bkd | apply bkA)); refine blk_far ?_ NB139_116.out _; (with_reducible repeat (first | apply bkD | apply bkd | apply bkA)); refine blk_far ?_ NB139_116.out _; (with_reducible repeat (first | apply bkD | apply bkd | apply bkA)); refine blk_far ?_ NB139_116.out _; (with_reducible repeat (first | apply bkD | apply bkd | apply bkA)); refine blk_far ?_ NB139_116.out _; (with_reducible repeat (first | apply bkD | apply bkd | apply bkA)); refine blk_far ?_ NB139_116.out _; (with_reducible repeat (first | apply bkD | apply bkd | apply bkA)); refine blk_far ?_ NB139_116.out _; (with_reducible repeat (first | apply bkD | apply bkd | apply bkA)); refine blk_far ?_ NB139_116.out _; (with_reducible repeat (first | apply bkD | apply bkd | apply bkA)); exact BK139.out⟩, ⟨by repeat (first | (with_reducible first | exact HB.out | apply beA | apply beD | apply bed | refine beS ?_ GE116.out | refine beS ?_ GE131.out | refine beS ?_ GE135.out | refine beS ?_ GE139.out) | exact HB.out)⟩⟩
            rw [if_neg c43] at H
            have c43b0 : decide (x10_2 < (wrap64 (x117005_2 + 1))) = false := decide_eq_false c43
            clear c43
            by_cases c51 : t132 = t122
            · rw [if_pos c51] at H
              have c51b0 : (t132 == t122) = true := beq_iff_eq.mpr c51
              have c51b1 : (t132 != t122) = false := bne_eq_false_iff_eq.mpr c51
              clear c51
              by_cases c52 : t133 = t123
              · rw [if_pos c52] at H
                have c52b0 : (t133 == t123) = true := beq_iff_eq.mpr c52
                have c52b1 : (t133 != t123) = false := bne_eq_false_iff_eq.mpr c52
                clear c52
                by_cases c53 : t109 = 0
                · rw [if_pos c53] at H
                  have c53b0 : (t109 == 0) = true := beq_iff_eq.mpr c53
                  have c53b1 : (t109 != 0) = false := bne_eq_false_iff_eq.mpr c53
                  clear c53
                  by_cases c54 : t124 = 0
                  · rw [if_pos c54] at H
                    have c54b0 : (t124 == 0) = true := beq_iff_eq.mpr c54
                    have c54b1 : (t124 != 0) = false := bne_eq_false_iff_eq.mpr c54
                    clear c54
                    obtain rfl := Option.some.inj H
                    have hnb55 := NB116_131.out
                    have hnc55 := NB131_116.out
                    have hnb56 := NB116_135.out
                    have hnc56 := NB135_116.out
                    have hnb57 := NB116_139.out
                    have hnc57 := NB139_116.out
                    obtain ⟨hcz58_0, hcz58_1, hcz58_2, hcz58_3, hcz58_4, hcz58_5, hcz58_6, hcz58_7, hcz58_8, hcz58_9, hcz58_10, hcz58_11, hcz58_12, hcz58_13⟩ := cz14 BK116.out
                    have hfz58_0 := blk_frozen BK116.out
                    have hnb59 := NB135_131.out
                    have hnc59 := NB131_135.out
                    have hnb60 := NB135_139.out
                    have hnc60 := NB139_135.out
                    obtain ⟨hcz61_0, hcz61_1⟩ := cz2 BK135.out
                    have hfz61_0 := blk_frozen BK135.out
                    have hnb62 := NB131_139.out
                    have hnc62 := NB139_131.out
                    obtain ⟨hcz63_0, hcz63_1, hcz63_2, hcz63_3, hcz63_4, hcz63_5, hcz63_6, hcz63_7, hcz63_8, hcz63_9, hcz63_10, hcz63_11, hcz63_12, hcz63_13⟩ := cz14 BK131.out
                    have hfz63_0 := blk_frozen BK131.out
                    go_wp2
                    go_ret
                    exact ⟨by first | rfl | (simp <;> rfl) | (simp [*] <;> rfl), by repeat (first | (with_reducible first | exact HB.out | apply beA | apply beD | apply bed | refine beS ?_ GE116.out | refine beS ?_ GE131.out | refine beS ?_ GE135.out | refine beS ?_ GE139.out) | exact HB.out)⟩
                  rw [if_neg c54] at H
                  have c54b0 : (t124 == 0) = false := beq_eq_false_iff_ne.mpr c54
                  have c54b1 : (t124 != 0) = true := bne_iff_ne.mpr c54
                  by_cases c64 : t124 = (wrap64 (t109 - 1))
                  · rw [if_pos c64] at H
                    have c64b0 : (t124 == (wrap64 (t109 - 1))) = true := beq_iff_eq.mpr c64
                    have c64b1 : (t124 != (wrap64 (t109 - 1))) = false := bne_eq_false_iff_eq.mpr c64
                    clear c64
                    obtain rfl := Option.some.inj H
                    have hnb65 := NB116_131.out
                    have hnc65 := NB131_116.out
                    have hnb66 := NB116_135.out
                    have hnc66 := NB135_116.out
                    have hnb67 := NB116_139.out
                    have hnc67 := NB139_116.out
                    obtain ⟨hcz68_0, hcz68_1, hcz68_2, hcz68_3, hcz68_4, hcz68_5, hcz68_6, hcz68_7, hcz68_8, hcz68_9, hcz68_10, hcz68_11, hcz68_12, hcz68_13⟩ := cz14 BK116.out
                    have hfz68_0 := blk_frozen BK116.out
                    have hnb69 := NB135_131.out
                    have hnc69 := NB131_135.out
                    have hnb70 := NB135_139.out
                    have hnc70 := NB139_135.out
                    obtain ⟨hcz71_0, hcz71_1⟩ := cz2 BK135.out
                    have hfz71_0 := blk_frozen BK135.out
                    have hnb72 := NB131_139.out
                    have hnc72 := NB139_131.out
                    obtain ⟨hcz73_0, hcz73_1, hcz73_2, hcz73_3, hcz73_4, hcz73_5, hcz73_6, hcz73_7, hcz73_8, hcz73_9, hcz73_10, hcz73_11, hcz73_12, hcz73_13⟩ := cz14 BK131.out
                    have hfz73_0 := blk_frozen BK131.out
                    go_wp2
                    go_ret
                    exact ⟨by first | rfl | (simp <;> rfl) | (simp [*] <;> rfl), by repeat (first | (with_reducible first | exact HB.out | apply beA | apply beD | apply bed | refine beS ?_ GE116.out | refine beS ?_ GE131.out | refine beS ?_ GE135.out | refine beS ?_ GE139.out) | exact HB.out)⟩
                  rw [if_neg c64] at H
                  have c64b0 : (t124 == (wrap64 (t109 - 1))) = false := beq_eq_false_iff_ne.mpr c64
                  have c64b1 : (t124 != (wrap64 (t109 - 1))) = true := bne_iff_ne.mpr c64
                  obtain rfl := Option.some.inj H
                  have hnb74 := NB116_131.out
                  have hnc74 := NB131_116.out
                  have hnb75 := NB116_135.out
                  have hnc75 := NB135_116.out
                  have hnb76 := NB116_139.out
                  have hnc76 := NB139_116.out
                  obtain ⟨hcz77_0, hcz77_1, hcz77_2, hcz77_3, hcz77_4, hcz77_5, hcz77_6, hcz77_7, hcz77_8, hcz77_9, hcz77_10, hcz77_11, hcz77_12, hcz77_13⟩ := cz14 BK116.out
                  have hfz77_0 := blk_frozen BK116.out
                  have hnb78 := NB135_131.out
                  have hnc78 := NB131_135.out
                  have hnb79 := NB135_139.out
                  have hnc79 := NB139_135.out
                  obtain ⟨hcz80_0, hcz80_1⟩ := cz2 BK135.out
                  have hfz80_0 := blk_frozen BK135.out
                  have hnb81 := NB131_139.out
                  have hnc81 := NB139_131.out
                  obtain ⟨hcz82_0, hcz82_1, hcz82_2, hcz82_3, hcz82_4, hcz82_5, hcz82_6, hcz82_7, hcz82_8, hcz82_9, hcz82_10, hcz82_11, hcz82_12, hcz82_13⟩ := cz14 BK131.out
                  have hfz82_0 := blk_frozen BK131.out
                  go_wp2
                  go_ret
                  exact ⟨by first | rfl | (simp <;> rfl) | (simp [*] <;> rfl), by repeat (first | (with_reducible first | exact HB.out | apply beA | apply beD | apply bed | refine beS ?_ GE116.out | refine beS ?_ GE131.out | refine beS ?_ GE135.out | refine beS ?_ GE139.out) | exact HB.out)⟩
                rw [if_neg c53] at H
                have c53b0 : (t109 == 0) = false := beq_eq_false_iff_ne.mpr c53
                have c53b1 : (t109 != 0) = true := bne_iff_ne.mpr c53
                by_cases c83 : t124 = (wrap64 (t109 - 1))
                · rw [if_pos c83] at H
                  have c83b0 : (t124 == (wrap64 (t109 - 1))) = true := beq_iff_eq.mpr c83
                  have c83b1 : (t124 != (wrap64 (t109 - 1))) = false := bne_eq_false_iff_eq.mpr c83
                  clear c83
                  obtain rfl := Option.some.inj H
                  have hnb84 := NB116_131.out
                  have hnc84 := NB131_116.out
                  have hnb85 := NB116_135.out
                  have hnc85 := NB135_116.out
                  have hnb86 := NB116_139.out
                  have hnc86 := NB139_116.out
                  obtain ⟨hcz87_0, hcz87_1, hcz87_2, hcz87_3, hcz87_4, hcz87_5, hcz87_6, hcz87_7, hcz87_8, hcz87_9, hcz87_10, hcz87_11, hcz87_12, hcz87_13⟩ := cz14 BK116.out
                  have hfz87_0 := blk_frozen BK116.out
                  have hnb88 := NB135_131.out
                  have hnc88 := NB131_135.out
                  have hnb89 := NB135_139.out
                  have hnc89 := NB139_135.out
                  obtain ⟨hcz90_0, hcz90_1⟩ := cz2 BK135.out
                  have hfz90_0 := blk_frozen BK135.out
                  have hnb91 := NB131_139.out
                  have hnc91 := NB139_131.out
                  obtain ⟨hcz92_0, hcz92_1, hcz92_2, hcz92_3, hcz92_4, hcz92_5, hcz92_6, hcz92_7, hcz92_8, hcz92_9, hcz92_10, hcz92_11, hcz92_12, hcz92_13⟩ := cz14 BK131.out
                  have hfz92_0 := blk_frozen BK131.out
                  go_wp2
                  go_ret
                  exact ⟨by first | rfl | (simp <;> rfl) | (simp [*] <;> rfl), by repeat (first | (with_reducible first | exact HB.out | apply beA | apply beD | apply bed | refine beS ?_ GE116.out | refine beS ?_ GE131.out | refine beS ?_ GE135.out | refine beS ?_ GE139.out) | exact HB.out)⟩
                rw [if_neg c83] at H
                have c83b0 : (t124 == (wrap64 (t109 - 1))) = false := beq_eq_false_iff_ne.mpr c83
                have c83b1 : (t124 != (wrap64 (t109 - 1))) = true := bne_iff_ne.mpr c83
                obtain rfl := Option.some.inj H
                have hnb93 := NB116_131.out
                have hnc93 := NB131_116.out
                have hnb94 := NB116_135.out
                have hnc94 := NB135_116.out
                have hnb95 := NB116_139.out
                have hnc95 := NB139_116.out
                obtain ⟨hcz96_0, hcz96_1, hcz96_2, hcz96_3, hcz96_4, hcz96_5, hcz96_6, hcz96_7, hcz96_8, hcz96_9, hcz96_10, hcz96_11, hcz96_12, hcz96_13⟩ := cz14 BK116.out
                have hfz96_0 := blk_frozen BK116.out
                have hnb97 := NB135_131.out
                have hnc97 := NB131_135.out
                have hnb98 := NB135_139.out
                have hnc98 := NB139_135.out
                obtain ⟨hcz99_0, hcz99_1⟩ := cz2 BK135.out
                have hfz99_0 := blk_frozen BK135.out
                have hnb100 := NB131_139.out
                have hnc100 := NB139_131.out
                obtain ⟨hcz101_0, hcz101_1, hcz101_2, hcz101_3, hcz101_4, hcz101_5, hcz101_6, hcz101_7, hcz101_8, hcz101_9, hcz101_10, hcz101_11, hcz101_12, hcz101_13⟩ := cz14 BK131.out
                have hfz101_0 := blk_frozen BK131.out
                go_wp2
                go_ret
                exact ⟨by first | rfl | (simp <;> rfl) | (simp [*] <;> rfl), by repeat (first | (with_reducible first | exact HB.out | apply beA | apply beD | apply bed | refine beS ?_ GE116.out | refine beS ?_ GE131.out | refine beS ?_ GE135.out | refine beS ?_ GE139.out) | exact HB.out)⟩
              rw [if_neg c52] at H
              have c52b0 : (t133 == t123) = false := beq_eq_false_iff_ne.mpr c52
              have c52b1 : (t133 != t123) = true := bne_iff_ne.mpr c52
              obtain rfl := Option.some.inj H
              have hnb102 := NB116_131.out
              have hnc102 := NB131_116.out
              have hnb103 := NB116_135.out
              have hnc103 := NB135_116.out
              have hnb104 := NB116_139.out
              have hnc104 := NB139_116.out
              obtain ⟨hcz105_0, hcz105_1, hcz105_2, hcz105_3, hcz105_4, hcz105_5, hcz105_6, hcz105_7, hcz105_8, hcz105_9, hcz105_10, hcz105_11, hcz105_12, hcz105_13⟩ := cz14 BK116.out
              have hfz105_0 := blk_frozen BK116.out
              have hnb106 := NB135_131.out
              have hnc106 := NB131_135.out
              have hnb107 := NB135_139.out
              have hnc107 := NB139_135.out
              obtain ⟨hcz108_0, hcz108_1⟩ := cz2 BK135.out
              have hfz108_0 := blk_frozen BK135.out
              have hnb109 := NB131_139.out
              have hnc109 := NB139_131.out
              obtain ⟨hcz110_0, hcz110_1, hcz110_2, hcz110_3, hcz110_4, hcz110_5, hcz110_6, hcz110_7, hcz110_8, hcz110_9, hcz110_10, hcz110_11, hcz110_12, hcz110_13⟩ := cz14 BK131.out
              have hfz110_0 := blk_frozen BK131.out
              go_wp2
              go_ret
              exact ⟨by first | rfl | (simp <;> rfl) | (simp [*] <;> rfl), by repeat (first | (with_reducible first | exact HB.out | apply beA | apply beD | apply bed | refine beS ?_ GE116.out | refine beS ?_ GE131.out | refine beS ?_ GE135.out | refine beS ?_ GE139.out) | exact HB.out)⟩
            rw [if_neg c51] at H
            have c51b0 : (t132 == t122) = false := beq_eq_false_iff_ne.mpr c51
            have c51b1 : (t132 != t122) = true := bne_iff_ne.mpr c51
            obtain rfl := Option.some.inj H
            have hnb111 := NB116_131.out
            have hnc111 := NB131_116.out
            have hnb112 := NB116_135.out
            have hnc112 := NB135_116.out
            have hnb113 := NB116_139.out
            have hnc113 := NB139_116.out
            obtain ⟨hcz114_0, hcz114_1, hcz114_2, hcz114_3, hcz114_4, hcz114_5, hcz114_6, hcz114_7, hcz114_8, hcz114_9, hcz114_10, hcz114_11, hcz114_12, hcz114_13⟩ := cz14 BK116.out
            have hfz114_0 := blk_frozen BK116.out
            have hnb115 := NB135_131.out
            have hnc115 := NB131_135.out
            have hnb116 := NB135_139.out
            have hnc116 := NB139_135.out
            obtain ⟨hcz117_0, hcz117_1⟩ := cz2 BK135.out
            have hfz117_0 := blk_frozen BK135.out
            have hnb118 := NB131_139.out
            have hnc118 := NB139_131.out
            obtain ⟨hcz119_0, hcz119_1, hcz119_2, hcz119_3, hcz119_4, hcz119_5, hcz119_6, hcz119_7, hcz119_8, hcz119_9, hcz119_10, hcz119_11, hcz119_12, hcz119_13⟩ := cz14 BK131.out
            have hfz119_0 := blk_frozen BK131.out
            go_wp2
            go_ret
            exact ⟨by first | rfl | (simp <;> rfl) | (simp [*] <;> rfl), by repeat (first | (with_reducible first | exact HB.out | apply beA | apply beD | apply bed | refine beS ?_ GE116.out | refine beS ?_ GE131.out | refine beS ?_ GE135.out | refine beS ?_ GE139.out) | exact HB.out)⟩
      replace c38 := Bool.eq_false_iff.mpr c38
      subst c38
      have H1 : (if (t117 == t102 && (t118 == t103 && (t119 == t104 && (t120 == t105 && (t121 == t106 && (t122 == t107 && (t123 == t108 && (t124 == t109 && (t125 == t110 && (t126 == t111 && (t127 == t112 && (t128 == t113 && (t129 == t114 && (t130 == t115)))))))))))))) = true then (some (t132 == 0 && (t133 == 0))) else (some false)) = some r := by rw [if_neg (show ¬ (false = true) by decide)] at H; exact H
      clear H
      have H := H1
      clear H1
      by_cases c120 : (t117 == t102 && (t118 == t103 && (t119 == t104 && (t120 == t105 && (t121 == t106 && (t122 == t107 && (t123 == t108 && (t124 == t109 && (t125 == t110 && (t126 == t111 && (t127 == t112 && (t128 == t113 && (t129 == t114 && (t130 == t115)))))))))))))) = true
      · rw [if_pos c120] at H
        have c120b0 : (t117 == t102 && (t118 == t103 && (t119 == t104 && (t120 == t105 && (t121 == t106 && (t122 == t107 && (t123 == t108 && (t124 == t109 && (t125 == t110 && (t126 == t111 && (t127 == t112 && (t128 == t113 && (t129 == t114 && (t130 == t115)))))))))))))) = true := c120
        (try (have c120b1 : decide (t117 = t102 && (t118 == t103 && (t119 == t104 && (t120 == t105 && (t121 == t106 && (t122 == t107 && (t123 == t108 && (t124 == t109 && (t125 == t110 && (t126 == t111 && (t127 == t112 && (t128 == t113 && (t129 == t114 && (t130 == t115)))))))))))))) = true := by simpa using c120))
        (try (have c120b2 : (t117 == t102 && (t118 == t103 && (t119 == t104 && (t120 == t105 && (t121 == t106 && (t122 == t107 && (t123 == t108 && (t124 == t109 && (t125 == t110 && (t126 == t111 && (t127 == t112 && (t128 == t113 && (t129 == t114 && (t130 == t115)))))))))))))) = true := by simpa using c120))
        clear c120
        obtain rfl := Option.some.inj H
        have hnb121 := NB131_116.out
        have hnc121 := NB116_131.out
        have hnb122 := NB131_135.out
        have hnc122 := NB135_131.out
        have hnb123 := NB131_139.out
        have hnc123 := NB139_131.out
        obtain ⟨hcz124_0, hcz124_1, hcz124_2, hcz124_3, hcz124_4, hcz124_5, hcz124_6, hcz124_7, hcz124_8, hcz124_9, hcz124_10, hcz124_11, hcz124_12, hcz124_13⟩ := cz14 BK131.out
        have hfz124_0 := blk_frozen BK131.out
        have hnb125 := NB116_135.out
        have hnc125 := NB135_116.out
        have hnb126 := NB116_139.out
        have hnc126 := NB139_116.out
        obtain ⟨hcz127_0, hcz127_1, hcz127_2, hcz127_3, hcz127_4, hcz127_5, hcz127_6, hcz127_7, hcz127_8, hcz127_9, hcz127_10, hcz127_11, hcz127_12, hcz127_13⟩ := cz14 BK116.out
        have hfz127_0 := blk_frozen BK116.out
        have hnb128 := NB135_139.out
        have hnc128 := NB139_135.out
        obtain ⟨hcz129_0, hcz129_1⟩ := cz2 BK135.out
        have hfz129_0 := blk_frozen BK135.out
        go_wp2
        go_ret
        exact ⟨by first | rfl | (simp <;> rfl) | (simp [*] <;> rfl), by repeat (first | (with_reducible first | exact HB.out | apply beA | apply beD | apply bed | refine beS ?_ GE116.out | refine beS ?_ GE131.out | refine beS ?_ GE135.out | refine beS ?_ GE139.out) | exact HB.out)⟩
      rw [if_neg c120] at H
      have c120b0 : (t117 == t102 && (t118 == t103 && (t119 == t104 && (t120 == t105 && (t121 == t106 && (t122 == t107 && (t123 == t108 && (t124 == t109 && (t125 == t110 && (t126 == t111 && (t127 == t112 && (t128 == t113 && (t129 == t114 && (t130 == t115)))))))))))))) = false := by simpa using c120
      (try (have c120b1 : decide (t117 = t102 && (t118 == t103 && (t119 == t104 && (t120 == t105 && (t121 == t106 && (t122 == t107 && (t123 == t108 && (t124 == t109 && (t125 == t110 && (t126 == t111 && (t127 == t112 && (t128 == t113 && (t129 == t114 && (t130 == t115)))))))))))))) = false := by simpa using c120))
      (try (have c120b2 : (t117 == t102 && (t118 == t103 && (t119 == t104 && (t120 == t105 && (t121 == t106 && (t122 == t107 && (t123 == t108 && (t124 == t109 && (t125 == t110 && (t126 == t111 && (t127 == t112 && (t128 == t113 && (t129 == t114 && (t130 == t115)))))))))))))) = false := by simpa using c120))
      (try (have c120b3 : ¬ (t117 = t102 && (t118 == t103 && (t119 == t104 && (t120 == t105 && (t121 == t106 && (t122 == t107 && (t123 == t108 && (t124 == t109 && (t125 == t110 && (t126 == t111 && (t127 == t112 && (t128 == t113 && (t129 == t114 && (t130 == t115)))))))))))))) := by simpa using c120))
      clear c120
      obtain rfl := Option.some.inj H
      have hnb130 := NB131_116.out
      have hnc130 := NB116_131.out
      have hnb131 := NB131_135.out
      have hnc131 := NB135_131.out
      have hnb132 := NB131_139.out
      have hnc132 := NB139_131.out
      obtain ⟨hcz133_0, hcz133_1, hcz133_2, hcz133_3, hcz133_4, hcz133_5, hcz133_6, hcz133_7, hcz133_8, hcz133_9, hcz133_10, hcz133_11, hcz133_12, hcz133_13⟩ := cz14 BK131.out
      have hfz133_0 := blk_frozen BK131.out
      have hnb134 := NB116_135.out
      have hnc134 := NB135_116.out
      have hnb135 := NB116_139.out
      have hnc135 := NB139_116.out
      obtain ⟨hcz136_0, hcz136_1, hcz136_2, hcz136_3, hcz136_4, hcz136_5, hcz136_6, hcz136_7, hcz136_8, hcz136_9, hcz136_10, hcz136_11, hcz136_12, hcz136_13⟩ := cz14 BK116.out
      have hfz136_0 := blk_frozen BK116.out
      go_wp2
      go_ret
      exact ⟨by first | rfl | (simp <;> rfl) | (simp [*] <;> rfl), by repeat (first | (with_reducible first | exact HB.out | apply beA | apply beD | apply bed | refine beS ?_ GE116.out | refine beS ?_ GE131.out | refine beS ?_ GE135.out | refine beS ?_ GE139.out) | exact HB.out)⟩

/-- THE ONE PURE STATEMENT of laws_FnSpent: yours. -/
def laws_FnSpent.Pure : Prop := ∀ (l0 : List Int), l0.length ≤ maxLen → l0.length * 1 ≤ 140737488351232 → (∀ x ∈ l0, (Lit.int .u8 x).wf = true) → ∃ k, laws_FnSpent.f k l0 = some true
theorem laws_FnSpent.walk (P : laws_FnSpent.Pure) (a0 : Option Addr) (len0 cap0 : Nat) (z0 : List Int) (w : World) (w0 : (a0 = none ∧ len0 = 0 ∧ cap0 = 0 ∧ z0 = []) ∨ ∃ x, a0 = some x ∧ len0 ≤ cap0 ∧ cap0 ≤ maxLen ∧ z0.length = cap0 ∧ (∀ i, i < z0.length → w.cell? (x.add i) = some (.int .u8 (z0.getD i 0))) ∧ ∀ n ∈ z0, (Lit.int .u8 n).wf = true) (y0 : len0 * 1 ≤ 140737488351232) :
    Calls Try.prog 9 #[.slice a0 len0 cap0] w fun e w' => e = .returned (.bool true) ∧ Below w.heap.size w w' := by
  obtain ⟨l0, rfl, hr0, hm0, hw0, hc0⟩ := ReadsInt.ofRowC w0
  obtain ⟨k, h⟩ := P l0 hm0 y0 hw0
  refine (laws_FnSpent.calls k _ _ l0 true w (Kd.C_of_reads (d := (0 : Int)) (h1 := fun _ => rfl) hr0) hc0 h).mono ?_
  rintro e w' ⟨rfl, hd⟩
  exact ⟨rfl, hd⟩

end Go.Proofs.Ytnokdjkkgcpbdab.Print
