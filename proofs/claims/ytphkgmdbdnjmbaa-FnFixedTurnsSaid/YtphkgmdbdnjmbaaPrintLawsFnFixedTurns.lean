/- Go functions as plain Lean functions, and that the Go code answers just as these, wherever they answer. Conditions: those of each theorem. Written by a program of this session (wip/patch.py). -/
import Derived.Test.YtphkgmdbdnjmbaaPrint0
import Derived.Test.YtphkgmdbdnjmbaaPrintEq
import Derived.Test.YtphkgmdbdnjmbaaPrintImplFixedSpend
import Derived.Test.YtphkgmdbdnjmbaaPrintImplTaskOk0
import Derived.Test.YtphkgmdbdnjmbaaPrintLawsBig
import Derived.Test.YtphkgmdbdnjmbaaPrintSpecDrawFixedSpend
import Derived.Test.YtphkgmdbdnjmbaaPrintSpecFixedSpend
import Derived.Test.YtphkgmdbdnjmbaaPrintSpecTaskOk0
namespace Go.Proofs.Ytphkgmdbdnjmbaa.Print
open Go.RowKit Go.Proofs.Ytphkgmdbdnjmbaa.Base Go.Proofs.YtphkgmdbdnjmbaaW.PrintWords Go.Proofs.YtphkgmdbdnjmbaaW.PrintLast Go.Proofs.YtphkgmdbdnjmbaaW.PrintMore
attribute [local go_sem] max2_int min2_int max_two min_two max_three min_three max_four min_four   -- for this text's walks alone
set_option linter.unusedVariables false
set_option linter.unusedSimpArgs false

attribute [local go_sem high] eqA27
/-! ### laws_FnFixedTurns: function 5 -/
mutual
def laws_FnFixedTurns.j0 : Nat → Int → Bool → Bool → Int → Int → Int → Int → Bool → Int → Int → Int → Int → Int → Int → Int → Int → Int → Int → Int → Int → Int → Bool → Int → Int → Int → Int → Int → Int → Int → Int → Int → Option (Bool)
  | 0, _, _, _, _, _, _, _, _, _, _, _, _, _, _, _, _, _, _, _, _, _, _, _, _, _, _, _, _, _, _, _ => none
  | k + 1, x4, x6, x39, x118000, x118001, x118002, x118003, x118004, x118005, x118006, x118007, x118008, x118009, x118010, x118011, x118012, x118013, x134000, x134001, x134002, x134003, x134004, x134005, x134006, x134007, x134008, x134009, x134010, x134011, x134012, x134013 => if x39 = true then (some false) else ((spec_TaskOk.f x118000 x118001 x118002 x118003 x118004 x118005 x118006 x118007 x118008 x118009 x118010 x118011 x118012 x118013).bind fun t150 => (if t150 = true then (if x118001 = 2 then (if x118010 = 0 then (laws_FnFixedTurns.j1 k x4 x6 true x118000 x118001 x118002 x118003 x118004 x118005 x118006 x118007 x118008 x118009 x118010 x118011 x118012 x118013 x134000 x134001 x134002 x134003 x134004 x134005 x134006 x134007 x134008 x134009 x134010 x134011 x134012 x134013) else (if x4 < 0 then (laws_FnFixedTurns.j1 k x4 x6 true x118000 x118001 x118002 x118003 x118004 x118005 x118006 x118007 x118008 x118009 x118010 x118011 x118012 x118013 x134000 x134001 x134002 x134003 x134004 x134005 x134006 x134007 x134008 x134009 x134010 x134011 x134012 x134013) else (laws_FnFixedTurns.j1 k x4 x6 (decide (x4 > 1000000)) x118000 x118001 x118002 x118003 x118004 x118005 x118006 x118007 x118008 x118009 x118010 x118011 x118012 x118013 x134000 x134001 x134002 x134003 x134004 x134005 x134006 x134007 x134008 x134009 x134010 x134011 x134012 x134013))) else (laws_FnFixedTurns.j1 k x4 x6 true x118000 x118001 x118002 x118003 x118004 x118005 x118006 x118007 x118008 x118009 x118010 x118011 x118012 x118013 x134000 x134001 x134002 x134003 x134004 x134005 x134006 x134007 x134008 x134009 x134010 x134011 x134012 x134013)) else (laws_FnFixedTurns.j1 k x4 x6 true x118000 x118001 x118002 x118003 x118004 x118005 x118006 x118007 x118008 x118009 x118010 x118011 x118012 x118013 x134000 x134001 x134002 x134003 x134004 x134005 x134006 x134007 x134008 x134009 x134010 x134011 x134012 x134013)))
def laws_FnFixedTurns.j1 : Nat → Int → Bool → Bool → Int → Int → Int → Int → Bool → Int → Int → Int → Int → Int → Int → Int → Int → Int → Int → Int → Int → Int → Bool → Int → Int → Int → Int → Int → Int → Int → Int → Int → Option (Bool)
  | 0, _, _, _, _, _, _, _, _, _, _, _, _, _, _, _, _, _, _, _, _, _, _, _, _, _, _, _, _, _, _, _ => none
  | k + 1, x4, x6, x60, x118000, x118001, x118002, x118003, x118004, x118005, x118006, x118007, x118008, x118009, x118010, x118011, x118012, x118013, x134000, x134001, x134002, x134003, x134004, x134005, x134006, x134007, x134008, x134009, x134010, x134011, x134012, x134013 => if x60 = true then (if x6 = true then (some false) else (if (x134000 == x118000 && (x134001 == x118001 && (x134002 == x118002 && (x134003 == x118003 && (x134004 == x118004 && (x134005 == x118005 && (x134006 == x118006 && (x134007 == x118007 && (x134008 == x118008 && (x134009 == x118009 && (x134010 == x118010 && (x134011 == x118011 && (x134012 == x118012 && (x134013 == x118013)))))))))))))) = true then (some true) else ((spec_TaskOk.f x118000 x118001 x118002 x118003 x118004 x118005 x118006 x118007 x118008 x118009 x118010 x118011 x118012 x118013).bind fun t151 => (if t151 = true then (some (decide (x118007 > 1))) else (some false))))) else (laws_FnFixedTurns.l0 k x4 0 0 x118000 x118001 x118002 x118003 x118004 x118005 x118006 x118007 x118008 x118009 x118010 x118011 x118012 x118013)
def laws_FnFixedTurns.l0 : Nat → Int → Int → Int → Int → Int → Int → Int → Bool → Int → Int → Int → Int → Int → Int → Int → Int → Int → Option (Bool)
  | 0, _, _, _, _, _, _, _, _, _, _, _, _, _, _, _, _, _ => none
  | k + 1, x4, x9, x10, x118000, x118001, x118002, x118003, x118004, x118005, x118006, x118007, x118008, x118009, x118010, x118011, x118012, x118013 => if x10 < x118010 then ((impl_FixedSpend.f k x118000 x118001 x118002 x118003 x118004 x118005 x118006 x118007 x118008 x118009 x118010 x118011 x118012 x118013 x4).bind fun bt152 => (if bt152.2.2.2.2.2.2.2.2.2.2.2.2.2.2 = true then (laws_FnFixedTurns.l0 k x4 (wrap64 (x9 + 1)) (wrap64 (x10 + 1)) bt152.1 bt152.2.1 bt152.2.2.1 bt152.2.2.2.1 bt152.2.2.2.2.1 bt152.2.2.2.2.2.1 bt152.2.2.2.2.2.2.1 bt152.2.2.2.2.2.2.2.1 bt152.2.2.2.2.2.2.2.2.1 bt152.2.2.2.2.2.2.2.2.2.1 bt152.2.2.2.2.2.2.2.2.2.2.1 bt152.2.2.2.2.2.2.2.2.2.2.2.1 bt152.2.2.2.2.2.2.2.2.2.2.2.2.1 bt152.2.2.2.2.2.2.2.2.2.2.2.2.2.1) else (laws_FnFixedTurns.l0 k x4 x9 (wrap64 (x10 + 1)) bt152.1 bt152.2.1 bt152.2.2.1 bt152.2.2.2.1 bt152.2.2.2.2.1 bt152.2.2.2.2.2.1 bt152.2.2.2.2.2.2.1 bt152.2.2.2.2.2.2.2.1 bt152.2.2.2.2.2.2.2.2.1 bt152.2.2.2.2.2.2.2.2.2.1 bt152.2.2.2.2.2.2.2.2.2.2.1 bt152.2.2.2.2.2.2.2.2.2.2.2.1 bt152.2.2.2.2.2.2.2.2.2.2.2.2.1 bt152.2.2.2.2.2.2.2.2.2.2.2.2.2.1))) else (if x9 = 1 then (if x118011 = x4 then ((impl_TaskOk.f x118000 x118001 x118002 x118003 x118004 x118005 x118006 x118007 x118008 x118009 x118010 x118011 x118012 x118013).bind fun t168 => (some t168)) else (some false)) else (some false))
end
def laws_FnFixedTurns.f (k : Nat) (l0 : List Int) : Option (Bool) := (laws_big.f l0).bind fun t101 => (if t101 = true then (some true) else ((spec_DrawFixedSpend.f k l0).bind fun bt102 => ((impl_FixedSpend.f k bt102.1 bt102.2.1 bt102.2.2.1 bt102.2.2.2.1 bt102.2.2.2.2.1 bt102.2.2.2.2.2.1 bt102.2.2.2.2.2.2.1 bt102.2.2.2.2.2.2.2.1 bt102.2.2.2.2.2.2.2.2.1 bt102.2.2.2.2.2.2.2.2.2.1 bt102.2.2.2.2.2.2.2.2.2.2.1 bt102.2.2.2.2.2.2.2.2.2.2.2.1 bt102.2.2.2.2.2.2.2.2.2.2.2.2.1 bt102.2.2.2.2.2.2.2.2.2.2.2.2.2.1 bt102.2.2.2.2.2.2.2.2.2.2.2.2.2.2).bind fun bt118 => ((spec_FixedSpend.f k bt102.1 bt102.2.1 bt102.2.2.1 bt102.2.2.2.1 bt102.2.2.2.2.1 bt102.2.2.2.2.2.1 bt102.2.2.2.2.2.2.1 bt102.2.2.2.2.2.2.2.1 bt102.2.2.2.2.2.2.2.2.1 bt102.2.2.2.2.2.2.2.2.2.1 bt102.2.2.2.2.2.2.2.2.2.2.1 bt102.2.2.2.2.2.2.2.2.2.2.2.1 bt102.2.2.2.2.2.2.2.2.2.2.2.2.1 bt102.2.2.2.2.2.2.2.2.2.2.2.2.2.1 bt102.2.2.2.2.2.2.2.2.2.2.2.2.2.2).bind fun bt134 => (if (!(bt118.1 == bt134.1) || (!(bt118.2.1 == bt134.2.1) || (!(bt118.2.2.1 == bt134.2.2.1) || (!(bt118.2.2.2.1 == bt134.2.2.2.1) || (!(bt118.2.2.2.2.1 == bt134.2.2.2.2.1) || (!(bt118.2.2.2.2.2.1 == bt134.2.2.2.2.2.1) || (!(bt118.2.2.2.2.2.2.1 == bt134.2.2.2.2.2.2.1) || (!(bt118.2.2.2.2.2.2.2.1 == bt134.2.2.2.2.2.2.2.1) || (!(bt118.2.2.2.2.2.2.2.2.1 == bt134.2.2.2.2.2.2.2.2.1) || (!(bt118.2.2.2.2.2.2.2.2.2.1 == bt134.2.2.2.2.2.2.2.2.2.1) || (!(bt118.2.2.2.2.2.2.2.2.2.2.1 == bt134.2.2.2.2.2.2.2.2.2.2.1) || (!(bt118.2.2.2.2.2.2.2.2.2.2.2.1 == bt134.2.2.2.2.2.2.2.2.2.2.2.1) || (!(bt118.2.2.2.2.2.2.2.2.2.2.2.2.1 == bt134.2.2.2.2.2.2.2.2.2.2.2.2.1) || (!(bt118.2.2.2.2.2.2.2.2.2.2.2.2.2.1 == bt134.2.2.2.2.2.2.2.2.2.2.2.2.2.1))))))))))))))) = true then (laws_FnFixedTurns.j0 k bt102.2.2.2.2.2.2.2.2.2.2.2.2.2.2 bt118.2.2.2.2.2.2.2.2.2.2.2.2.2.2 true bt102.1 bt102.2.1 bt102.2.2.1 bt102.2.2.2.1 bt102.2.2.2.2.1 bt102.2.2.2.2.2.1 bt102.2.2.2.2.2.2.1 bt102.2.2.2.2.2.2.2.1 bt102.2.2.2.2.2.2.2.2.1 bt102.2.2.2.2.2.2.2.2.2.1 bt102.2.2.2.2.2.2.2.2.2.2.1 bt102.2.2.2.2.2.2.2.2.2.2.2.1 bt102.2.2.2.2.2.2.2.2.2.2.2.2.1 bt102.2.2.2.2.2.2.2.2.2.2.2.2.2.1 bt118.1 bt118.2.1 bt118.2.2.1 bt118.2.2.2.1 bt118.2.2.2.2.1 bt118.2.2.2.2.2.1 bt118.2.2.2.2.2.2.1 bt118.2.2.2.2.2.2.2.1 bt118.2.2.2.2.2.2.2.2.1 bt118.2.2.2.2.2.2.2.2.2.1 bt118.2.2.2.2.2.2.2.2.2.2.1 bt118.2.2.2.2.2.2.2.2.2.2.2.1 bt118.2.2.2.2.2.2.2.2.2.2.2.2.1 bt118.2.2.2.2.2.2.2.2.2.2.2.2.2.1) else (laws_FnFixedTurns.j0 k bt102.2.2.2.2.2.2.2.2.2.2.2.2.2.2 bt118.2.2.2.2.2.2.2.2.2.2.2.2.2.2 (bt118.2.2.2.2.2.2.2.2.2.2.2.2.2.2 != bt134.2.2.2.2.2.2.2.2.2.2.2.2.2.2) bt102.1 bt102.2.1 bt102.2.2.1 bt102.2.2.2.1 bt102.2.2.2.2.1 bt102.2.2.2.2.2.1 bt102.2.2.2.2.2.2.1 bt102.2.2.2.2.2.2.2.1 bt102.2.2.2.2.2.2.2.2.1 bt102.2.2.2.2.2.2.2.2.2.1 bt102.2.2.2.2.2.2.2.2.2.2.1 bt102.2.2.2.2.2.2.2.2.2.2.2.1 bt102.2.2.2.2.2.2.2.2.2.2.2.2.1 bt102.2.2.2.2.2.2.2.2.2.2.2.2.2.1 bt118.1 bt118.2.1 bt118.2.2.1 bt118.2.2.2.1 bt118.2.2.2.2.1 bt118.2.2.2.2.2.1 bt118.2.2.2.2.2.2.1 bt118.2.2.2.2.2.2.2.1 bt118.2.2.2.2.2.2.2.2.1 bt118.2.2.2.2.2.2.2.2.2.1 bt118.2.2.2.2.2.2.2.2.2.2.1 bt118.2.2.2.2.2.2.2.2.2.2.2.1 bt118.2.2.2.2.2.2.2.2.2.2.2.2.1 bt118.2.2.2.2.2.2.2.2.2.2.2.2.2.1))))))
theorem laws_FnFixedTurns.mono_l : ∀ k, (∀ y0 y1 y2 y3 y4 y5 y6 y7 y8 y9 y10 y11 y12 y13 y14 y15 y16 y17 y18 y19 y20 y21 y22 y23 y24 y25 y26 y27 y28 y29 y30, LeO (laws_FnFixedTurns.j0 k y0 y1 y2 y3 y4 y5 y6 y7 y8 y9 y10 y11 y12 y13 y14 y15 y16 y17 y18 y19 y20 y21 y22 y23 y24 y25 y26 y27 y28 y29 y30) (laws_FnFixedTurns.j0 (k + 1) y0 y1 y2 y3 y4 y5 y6 y7 y8 y9 y10 y11 y12 y13 y14 y15 y16 y17 y18 y19 y20 y21 y22 y23 y24 y25 y26 y27 y28 y29 y30)) ∧ (∀ y0 y1 y2 y3 y4 y5 y6 y7 y8 y9 y10 y11 y12 y13 y14 y15 y16 y17 y18 y19 y20 y21 y22 y23 y24 y25 y26 y27 y28 y29 y30, LeO (laws_FnFixedTurns.j1 k y0 y1 y2 y3 y4 y5 y6 y7 y8 y9 y10 y11 y12 y13 y14 y15 y16 y17 y18 y19 y20 y21 y22 y23 y24 y25 y26 y27 y28 y29 y30) (laws_FnFixedTurns.j1 (k + 1) y0 y1 y2 y3 y4 y5 y6 y7 y8 y9 y10 y11 y12 y13 y14 y15 y16 y17 y18 y19 y20 y21 y22 y23 y24 y25 y26 y27 y28 y29 y30)) ∧ (∀ y0 y1 y2 y3 y4 y5 y6 y7 y8 y9 y10 y11 y12 y13 y14 y15 y16, LeO (laws_FnFixedTurns.l0 k y0 y1 y2 y3 y4 y5 y6 y7 y8 y9 y10 y11 y12 y13 y14 y15 y16) (laws_FnFixedTurns.l0 (k + 1) y0 y1 y2 y3 y4 y5 y6 y7 y8 y9 y10 y11 y12 y13 y14 y15 y16))
  | 0 => ⟨fun _ _ _ _ _ _ _ _ _ _ _ _ _ _ _ _ _ _ _ _ _ _ _ _ _ _ _ _ _ _ _ r h => by simp [laws_FnFixedTurns.j0] at h, fun _ _ _ _ _ _ _ _ _ _ _ _ _ _ _ _ _ _ _ _ _ _ _ _ _ _ _ _ _ _ _ r h => by simp [laws_FnFixedTurns.j1] at h, fun _ _ _ _ _ _ _ _ _ _ _ _ _ _ _ _ _ r h => by simp [laws_FnFixedTurns.l0] at h⟩
  | k + 1 => by
    obtain ⟨ih0, ih1, ih2⟩ := laws_FnFixedTurns.mono_l k
    refine ⟨?_, ?_, ?_⟩
    · intro y0 y1 y2 y3 y4 y5 y6 y7 y8 y9 y10 y11 y12 y13 y14 y15 y16 y17 y18 y19 y20 y21 y22 y23 y24 y25 y26 y27 y28 y29 y30
      unfold laws_FnFixedTurns.j0
      repeat' first
      | (with_reducible exact ih0 _ _ _ _ _ _ _ _ _ _ _ _ _ _ _ _ _ _ _ _ _ _ _ _ _ _ _ _ _ _ _)
      | (with_reducible exact ih1 _ _ _ _ _ _ _ _ _ _ _ _ _ _ _ _ _ _ _ _ _ _ _ _ _ _ _ _ _ _ _)
      | (with_reducible exact ih2 _ _ _ _ _ _ _ _ _ _ _ _ _ _ _ _ _)
      | (with_reducible exact impl_FixedSpend.mono _ _ _ _ _ _ _ _ _ _ _ _ _ _ _ _)
      | (with_reducible exact spec_DrawFixedSpend.mono _ _)
      | (with_reducible exact spec_FixedSpend.mono _ _ _ _ _ _ _ _ _ _ _ _ _ _ _ _)
      | (with_reducible exact LeO.refl _)
      | (with_reducible exact LeO.none _)
      | (with_reducible refine LeO.ite ?_ ?_)
      | (with_reducible refine LeO.bind ?_ (fun _ => ?_))
      | exact ih0 _ _ _ _ _ _ _ _ _ _ _ _ _ _ _ _ _ _ _ _ _ _ _ _ _ _ _ _ _ _ _
      | exact ih1 _ _ _ _ _ _ _ _ _ _ _ _ _ _ _ _ _ _ _ _ _ _ _ _ _ _ _ _ _ _ _
      | exact ih2 _ _ _ _ _ _ _ _ _ _ _ _ _ _ _ _ _
      | exact impl_FixedSpend.mono _ _ _ _ _ _ _ _ _ _ _ _ _ _ _ _
      | exact spec_DrawFixedSpend.mono _ _
      | exact spec_FixedSpend.mono _ _ _ _ _ _ _ _ _ _ _ _ _ _ _ _
      | exact LeO.none _
      | refine LeO.ite ?_ ?_
      | refine LeO.bind ?_ (fun _ => ?_)
    · intro y0 y1 y2 y3 y4 y5 y6 y7 y8 y9 y10 y11 y12 y13 y14 y15 y16 y17 y18 y19 y20 y21 y22 y23 y24 y25 y26 y27 y28 y29 y30
      unfold laws_FnFixedTurns.j1
      repeat' first
      | (with_reducible exact ih0 _ _ _ _ _ _ _ _ _ _ _ _ _ _ _ _ _ _ _ _ _ _ _ _ _ _ _ _ _ _ _)
      | (with_reducible exact ih1 _ _ _ _ _ _ _ _ _ _ _ _ _ _ _ _ _ _ _ _ _ _ _ _ _ _ _ _ _ _ _)
      | (with_reducible exact ih2 _ _ _ _ _ _ _ _ _ _ _ _ _ _ _ _ _)
      | (with_reducible exact impl_FixedSpend.mono _ _ _ _ _ _ _ _ _ _ _ _ _ _ _ _)
      | (with_reducible exact spec_DrawFixedSpend.mono _ _)
      | (with_reducible exact spec_FixedSpend.mono _ _ _ _ _ _ _ _ _ _ _ _ _ _ _ _)
      | (with_reducible exact LeO.refl _)
      | (with_reducible exact LeO.none _)
      | (with_reducible refine LeO.ite ?_ ?_)
      | (with_reducible refine LeO.bind ?_ (fun _ => ?_))
      | exact ih0 _ _ _ _ _ _ _ _ _ _ _ _ _ _ _ _ _ _ _ _ _ _ _ _ _ _ _ _ _ _ _
      | exact ih1 _ _ _ _ _ _ _ _ _ _ _ _ _ _ _ _ _ _ _ _ _ _ _ _ _ _ _ _ _ _ _
      | exact ih2 _ _ _ _ _ _ _ _ _ _ _ _ _ _ _ _ _
      | exact impl_FixedSpend.mono _ _ _ _ _ _ _ _ _ _ _ _ _ _ _ _
      | exact spec_DrawFixedSpend.mono _ _
      | exact spec_FixedSpend.mono _ _ _ _ _ _ _ _ _ _ _ _ _ _ _ _
      | exact LeO.none _
      | refine LeO.ite ?_ ?_
      | refine LeO.bind ?_ (fun _ => ?_)
    intro y0 y1 y2 y3 y4 y5 y6 y7 y8 y9 y10 y11 y12 y13 y14 y15 y16
    unfold laws_FnFixedTurns.l0
    repeat' first
    | (with_reducible exact ih0 _ _ _ _ _ _ _ _ _ _ _ _ _ _ _ _ _ _ _ _ _ _ _ _ _ _ _ _ _ _ _)
    | (with_reducible exact ih1 _ _ _ _ _ _ _ _ _ _ _ _ _ _ _ _ _ _ _ _ _ _ _ _ _ _ _ _ _ _ _)
    | (with_reducible exact ih2 _ _ _ _ _ _ _ _ _ _ _ _ _ _ _ _ _)
    | (with_reducible exact impl_FixedSpend.mono _ _ _ _ _ _ _ _ _ _ _ _ _ _ _ _)
    | (with_reducible exact spec_DrawFixedSpend.mono _ _)
    | (with_reducible exact spec_FixedSpend.mono _ _ _ _ _ _ _ _ _ _ _ _ _ _ _ _)
    | (with_reducible exact LeO.refl _)
    | (with_reducible exact LeO.none _)
    | (with_reducible refine LeO.ite ?_ ?_)
    | (with_reducible refine LeO.bind ?_ (fun _ => ?_))
    | exact ih0 _ _ _ _ _ _ _ _ _ _ _ _ _ _ _ _ _ _ _ _ _ _ _ _ _ _ _ _ _ _ _
    | exact ih1 _ _ _ _ _ _ _ _ _ _ _ _ _ _ _ _ _ _ _ _ _ _ _ _ _ _ _ _ _ _ _
    | exact ih2 _ _ _ _ _ _ _ _ _ _ _ _ _ _ _ _ _
    | exact impl_FixedSpend.mono _ _ _ _ _ _ _ _ _ _ _ _ _ _ _ _
    | exact spec_DrawFixedSpend.mono _ _
    | exact spec_FixedSpend.mono _ _ _ _ _ _ _ _ _ _ _ _ _ _ _ _
    | exact LeO.none _
    | refine LeO.ite ?_ ?_
    | refine LeO.bind ?_ (fun _ => ?_)
theorem laws_FnFixedTurns.mono : ∀ a0 k, LeO (laws_FnFixedTurns.f k a0) (laws_FnFixedTurns.f (k + 1) a0) := by
  intro a0 k
  obtain ⟨ih0, ih1, ih2⟩ := laws_FnFixedTurns.mono_l k
  unfold laws_FnFixedTurns.f
  repeat' first
      | (with_reducible exact ih0 _ _ _ _ _ _ _ _ _ _ _ _ _ _ _ _ _ _ _ _ _ _ _ _ _ _ _ _ _ _ _)
      | (with_reducible exact ih1 _ _ _ _ _ _ _ _ _ _ _ _ _ _ _ _ _ _ _ _ _ _ _ _ _ _ _ _ _ _ _)
      | (with_reducible exact ih2 _ _ _ _ _ _ _ _ _ _ _ _ _ _ _ _ _)
      | (with_reducible exact impl_FixedSpend.mono _ _ _ _ _ _ _ _ _ _ _ _ _ _ _ _)
      | (with_reducible exact spec_DrawFixedSpend.mono _ _)
      | (with_reducible exact spec_FixedSpend.mono _ _ _ _ _ _ _ _ _ _ _ _ _ _ _ _)
      | (with_reducible exact LeO.refl _)
      | (with_reducible exact LeO.none _)
      | (with_reducible refine LeO.ite ?_ ?_)
      | (with_reducible refine LeO.bind ?_ (fun _ => ?_))
      | exact ih0 _ _ _ _ _ _ _ _ _ _ _ _ _ _ _ _ _ _ _ _ _ _ _ _ _ _ _ _ _ _ _
      | exact ih1 _ _ _ _ _ _ _ _ _ _ _ _ _ _ _ _ _ _ _ _ _ _ _ _ _ _ _ _ _ _ _
      | exact ih2 _ _ _ _ _ _ _ _ _ _ _ _ _ _ _ _ _
      | exact impl_FixedSpend.mono _ _ _ _ _ _ _ _ _ _ _ _ _ _ _ _
      | exact spec_DrawFixedSpend.mono _ _
      | exact spec_FixedSpend.mono _ _ _ _ _ _ _ _ _ _ _ _ _ _ _ _
      | exact LeO.none _
      | refine LeO.ite ?_ ?_
      | refine LeO.bind ?_ (fun _ => ?_)
set_option maxHeartbeats 60000000 in
set_option maxRecDepth 100000 in
theorem laws_FnFixedTurns.calls (k : Nat) (A0 : Option Addr) (c0 : Nat) (l0 : List Int) (r : Bool) (w : World) (hr0 : Kd.C (Kd.int .u8) w A0 l0.length l0) (hc0 : l0.length ≤ c0) (hrt : r = true) (h : laws_FnFixedTurns.f k l0 = some r) :
    Calls Try.prog 5 #[.slice A0 l0.length c0] w fun e w' => e = .returned (.bool r) ∧ Below w.heap.size w w' := by
  have hu27 := Try.underlying27
  have HR0 := Aside0.mk hr0
  have HC0 := Aside0.mk hc0
  clear hr0 hc0
  have HB := aM (Below.refl w.heap.size w)
  have HRT := Aside0.mk hrt
  clear hrt
  have H : ((laws_big.f l0).bind fun t101 => (if t101 = true then (some true) else ((spec_DrawFixedSpend.f k l0).bind fun bt102 => ((impl_FixedSpend.f k bt102.1 bt102.2.1 bt102.2.2.1 bt102.2.2.2.1 bt102.2.2.2.2.1 bt102.2.2.2.2.2.1 bt102.2.2.2.2.2.2.1 bt102.2.2.2.2.2.2.2.1 bt102.2.2.2.2.2.2.2.2.1 bt102.2.2.2.2.2.2.2.2.2.1 bt102.2.2.2.2.2.2.2.2.2.2.1 bt102.2.2.2.2.2.2.2.2.2.2.2.1 bt102.2.2.2.2.2.2.2.2.2.2.2.2.1 bt102.2.2.2.2.2.2.2.2.2.2.2.2.2.1 bt102.2.2.2.2.2.2.2.2.2.2.2.2.2.2).bind fun bt118 => ((spec_FixedSpend.f k bt102.1 bt102.2.1 bt102.2.2.1 bt102.2.2.2.1 bt102.2.2.2.2.1 bt102.2.2.2.2.2.1 bt102.2.2.2.2.2.2.1 bt102.2.2.2.2.2.2.2.1 bt102.2.2.2.2.2.2.2.2.1 bt102.2.2.2.2.2.2.2.2.2.1 bt102.2.2.2.2.2.2.2.2.2.2.1 bt102.2.2.2.2.2.2.2.2.2.2.2.1 bt102.2.2.2.2.2.2.2.2.2.2.2.2.1 bt102.2.2.2.2.2.2.2.2.2.2.2.2.2.1 bt102.2.2.2.2.2.2.2.2.2.2.2.2.2.2).bind fun bt134 => (if (!(bt118.1 == bt134.1) || (!(bt118.2.1 == bt134.2.1) || (!(bt118.2.2.1 == bt134.2.2.1) || (!(bt118.2.2.2.1 == bt134.2.2.2.1) || (!(bt118.2.2.2.2.1 == bt134.2.2.2.2.1) || (!(bt118.2.2.2.2.2.1 == bt134.2.2.2.2.2.1) || (!(bt118.2.2.2.2.2.2.1 == bt134.2.2.2.2.2.2.1) || (!(bt118.2.2.2.2.2.2.2.1 == bt134.2.2.2.2.2.2.2.1) || (!(bt118.2.2.2.2.2.2.2.2.1 == bt134.2.2.2.2.2.2.2.2.1) || (!(bt118.2.2.2.2.2.2.2.2.2.1 == bt134.2.2.2.2.2.2.2.2.2.1) || (!(bt118.2.2.2.2.2.2.2.2.2.2.1 == bt134.2.2.2.2.2.2.2.2.2.2.1) || (!(bt118.2.2.2.2.2.2.2.2.2.2.2.1 == bt134.2.2.2.2.2.2.2.2.2.2.2.1) || (!(bt118.2.2.2.2.2.2.2.2.2.2.2.2.1 == bt134.2.2.2.2.2.2.2.2.2.2.2.2.1) || (!(bt118.2.2.2.2.2.2.2.2.2.2.2.2.2.1 == bt134.2.2.2.2.2.2.2.2.2.2.2.2.2.1))))))))))))))) = true then (laws_FnFixedTurns.j0 k bt102.2.2.2.2.2.2.2.2.2.2.2.2.2.2 bt118.2.2.2.2.2.2.2.2.2.2.2.2.2.2 true bt102.1 bt102.2.1 bt102.2.2.1 bt102.2.2.2.1 bt102.2.2.2.2.1 bt102.2.2.2.2.2.1 bt102.2.2.2.2.2.2.1 bt102.2.2.2.2.2.2.2.1 bt102.2.2.2.2.2.2.2.2.1 bt102.2.2.2.2.2.2.2.2.2.1 bt102.2.2.2.2.2.2.2.2.2.2.1 bt102.2.2.2.2.2.2.2.2.2.2.2.1 bt102.2.2.2.2.2.2.2.2.2.2.2.2.1 bt102.2.2.2.2.2.2.2.2.2.2.2.2.2.1 bt118.1 bt118.2.1 bt118.2.2.1 bt118.2.2.2.1 bt118.2.2.2.2.1 bt118.2.2.2.2.2.1 bt118.2.2.2.2.2.2.1 bt118.2.2.2.2.2.2.2.1 bt118.2.2.2.2.2.2.2.2.1 bt118.2.2.2.2.2.2.2.2.2.1 bt118.2.2.2.2.2.2.2.2.2.2.1 bt118.2.2.2.2.2.2.2.2.2.2.2.1 bt118.2.2.2.2.2.2.2.2.2.2.2.2.1 bt118.2.2.2.2.2.2.2.2.2.2.2.2.2.1) else (laws_FnFixedTurns.j0 k bt102.2.2.2.2.2.2.2.2.2.2.2.2.2.2 bt118.2.2.2.2.2.2.2.2.2.2.2.2.2.2 (bt118.2.2.2.2.2.2.2.2.2.2.2.2.2.2 != bt134.2.2.2.2.2.2.2.2.2.2.2.2.2.2) bt102.1 bt102.2.1 bt102.2.2.1 bt102.2.2.2.1 bt102.2.2.2.2.1 bt102.2.2.2.2.2.1 bt102.2.2.2.2.2.2.1 bt102.2.2.2.2.2.2.2.1 bt102.2.2.2.2.2.2.2.2.1 bt102.2.2.2.2.2.2.2.2.2.1 bt102.2.2.2.2.2.2.2.2.2.2.1 bt102.2.2.2.2.2.2.2.2.2.2.2.1 bt102.2.2.2.2.2.2.2.2.2.2.2.2.1 bt102.2.2.2.2.2.2.2.2.2.2.2.2.2.1 bt118.1 bt118.2.1 bt118.2.2.1 bt118.2.2.2.1 bt118.2.2.2.2.1 bt118.2.2.2.2.2.1 bt118.2.2.2.2.2.2.1 bt118.2.2.2.2.2.2.2.1 bt118.2.2.2.2.2.2.2.2.1 bt118.2.2.2.2.2.2.2.2.2.1 bt118.2.2.2.2.2.2.2.2.2.2.1 bt118.2.2.2.2.2.2.2.2.2.2.2.1 bt118.2.2.2.2.2.2.2.2.2.2.2.2.1 bt118.2.2.2.2.2.2.2.2.2.2.2.2.2.1))))))) = some r := h
  clear h
  replace H := Option.bind_eq_some_iff.mp H
  obtain ⟨t101, A20, H⟩ := H
  replace H : (if t101 = true then (some true) else ((spec_DrawFixedSpend.f k l0).bind fun bt102 => ((impl_FixedSpend.f k bt102.1 bt102.2.1 bt102.2.2.1 bt102.2.2.2.1 bt102.2.2.2.2.1 bt102.2.2.2.2.2.1 bt102.2.2.2.2.2.2.1 bt102.2.2.2.2.2.2.2.1 bt102.2.2.2.2.2.2.2.2.1 bt102.2.2.2.2.2.2.2.2.2.1 bt102.2.2.2.2.2.2.2.2.2.2.1 bt102.2.2.2.2.2.2.2.2.2.2.2.1 bt102.2.2.2.2.2.2.2.2.2.2.2.2.1 bt102.2.2.2.2.2.2.2.2.2.2.2.2.2.1 bt102.2.2.2.2.2.2.2.2.2.2.2.2.2.2).bind fun bt118 => ((spec_FixedSpend.f k bt102.1 bt102.2.1 bt102.2.2.1 bt102.2.2.2.1 bt102.2.2.2.2.1 bt102.2.2.2.2.2.1 bt102.2.2.2.2.2.2.1 bt102.2.2.2.2.2.2.2.1 bt102.2.2.2.2.2.2.2.2.1 bt102.2.2.2.2.2.2.2.2.2.1 bt102.2.2.2.2.2.2.2.2.2.2.1 bt102.2.2.2.2.2.2.2.2.2.2.2.1 bt102.2.2.2.2.2.2.2.2.2.2.2.2.1 bt102.2.2.2.2.2.2.2.2.2.2.2.2.2.1 bt102.2.2.2.2.2.2.2.2.2.2.2.2.2.2).bind fun bt134 => (if (!(bt118.1 == bt134.1) || (!(bt118.2.1 == bt134.2.1) || (!(bt118.2.2.1 == bt134.2.2.1) || (!(bt118.2.2.2.1 == bt134.2.2.2.1) || (!(bt118.2.2.2.2.1 == bt134.2.2.2.2.1) || (!(bt118.2.2.2.2.2.1 == bt134.2.2.2.2.2.1) || (!(bt118.2.2.2.2.2.2.1 == bt134.2.2.2.2.2.2.1) || (!(bt118.2.2.2.2.2.2.2.1 == bt134.2.2.2.2.2.2.2.1) || (!(bt118.2.2.2.2.2.2.2.2.1 == bt134.2.2.2.2.2.2.2.2.1) || (!(bt118.2.2.2.2.2.2.2.2.2.1 == bt134.2.2.2.2.2.2.2.2.2.1) || (!(bt118.2.2.2.2.2.2.2.2.2.2.1 == bt134.2.2.2.2.2.2.2.2.2.2.1) || (!(bt118.2.2.2.2.2.2.2.2.2.2.2.1 == bt134.2.2.2.2.2.2.2.2.2.2.2.1) || (!(bt118.2.2.2.2.2.2.2.2.2.2.2.2.1 == bt134.2.2.2.2.2.2.2.2.2.2.2.2.1) || (!(bt118.2.2.2.2.2.2.2.2.2.2.2.2.2.1 == bt134.2.2.2.2.2.2.2.2.2.2.2.2.2.1))))))))))))))) = true then (laws_FnFixedTurns.j0 k bt102.2.2.2.2.2.2.2.2.2.2.2.2.2.2 bt118.2.2.2.2.2.2.2.2.2.2.2.2.2.2 true bt102.1 bt102.2.1 bt102.2.2.1 bt102.2.2.2.1 bt102.2.2.2.2.1 bt102.2.2.2.2.2.1 bt102.2.2.2.2.2.2.1 bt102.2.2.2.2.2.2.2.1 bt102.2.2.2.2.2.2.2.2.1 bt102.2.2.2.2.2.2.2.2.2.1 bt102.2.2.2.2.2.2.2.2.2.2.1 bt102.2.2.2.2.2.2.2.2.2.2.2.1 bt102.2.2.2.2.2.2.2.2.2.2.2.2.1 bt102.2.2.2.2.2.2.2.2.2.2.2.2.2.1 bt118.1 bt118.2.1 bt118.2.2.1 bt118.2.2.2.1 bt118.2.2.2.2.1 bt118.2.2.2.2.2.1 bt118.2.2.2.2.2.2.1 bt118.2.2.2.2.2.2.2.1 bt118.2.2.2.2.2.2.2.2.1 bt118.2.2.2.2.2.2.2.2.2.1 bt118.2.2.2.2.2.2.2.2.2.2.1 bt118.2.2.2.2.2.2.2.2.2.2.2.1 bt118.2.2.2.2.2.2.2.2.2.2.2.2.1 bt118.2.2.2.2.2.2.2.2.2.2.2.2.2.1) else (laws_FnFixedTurns.j0 k bt102.2.2.2.2.2.2.2.2.2.2.2.2.2.2 bt118.2.2.2.2.2.2.2.2.2.2.2.2.2.2 (bt118.2.2.2.2.2.2.2.2.2.2.2.2.2.2 != bt134.2.2.2.2.2.2.2.2.2.2.2.2.2.2) bt102.1 bt102.2.1 bt102.2.2.1 bt102.2.2.2.1 bt102.2.2.2.2.1 bt102.2.2.2.2.2.1 bt102.2.2.2.2.2.2.1 bt102.2.2.2.2.2.2.2.1 bt102.2.2.2.2.2.2.2.2.1 bt102.2.2.2.2.2.2.2.2.2.1 bt102.2.2.2.2.2.2.2.2.2.2.1 bt102.2.2.2.2.2.2.2.2.2.2.2.1 bt102.2.2.2.2.2.2.2.2.2.2.2.2.1 bt102.2.2.2.2.2.2.2.2.2.2.2.2.2.1 bt118.1 bt118.2.1 bt118.2.2.1 bt118.2.2.2.1 bt118.2.2.2.2.1 bt118.2.2.2.2.2.1 bt118.2.2.2.2.2.2.1 bt118.2.2.2.2.2.2.2.1 bt118.2.2.2.2.2.2.2.2.1 bt118.2.2.2.2.2.2.2.2.2.1 bt118.2.2.2.2.2.2.2.2.2.2.1 bt118.2.2.2.2.2.2.2.2.2.2.2.1 bt118.2.2.2.2.2.2.2.2.2.2.2.2.1 bt118.2.2.2.2.2.2.2.2.2.2.2.2.2.1)))))) = some r := H
  have A2 := Aside0.mk A20
  clear A20
  by_cases c3 : t101 = true
  · subst c3
    have H1 : (some true) = some r := by rw [if_pos rfl] at H; exact H
    clear H
    have H := H1
    clear H1
    obtain rfl := Option.some.inj H
    go_enter Try.func5, Try.ntmps5
    go_wp2_with (first | ((with_reducible refine gate_callee (f := 12) rfl ?_); refine gL (some 14) Try.func12 #[.slice A0 l0.length c0] ?_; (with_reducible refine (laws_big.calls _ _ l0 true _ ?side1 ?side2 A2.out).mono ?_); (case side1 => repeat (first | exact HR0.out | (with_reducible refine Kd.C_alloc ?_ _) | (with_reducible refine Kd.C_drewN ?_ _) | (with_reducible refine Kd.C_drew ?_))); (case side2 => exact HC0.out); rintro e w' ⟨rfl, ⟨nd, rfl⟩⟩; refine ⟨_, rfl, ?_⟩))
    all_goals go_ret
    all_goals exact ⟨by first | rfl | (simp <;> rfl) | (simp [*] <;> rfl), bq HB⟩
  replace c3 := Bool.eq_false_iff.mpr c3
  subst c3
  have H1 : ((spec_DrawFixedSpend.f k l0).bind fun bt102 => ((impl_FixedSpend.f k bt102.1 bt102.2.1 bt102.2.2.1 bt102.2.2.2.1 bt102.2.2.2.2.1 bt102.2.2.2.2.2.1 bt102.2.2.2.2.2.2.1 bt102.2.2.2.2.2.2.2.1 bt102.2.2.2.2.2.2.2.2.1 bt102.2.2.2.2.2.2.2.2.2.1 bt102.2.2.2.2.2.2.2.2.2.2.1 bt102.2.2.2.2.2.2.2.2.2.2.2.1 bt102.2.2.2.2.2.2.2.2.2.2.2.2.1 bt102.2.2.2.2.2.2.2.2.2.2.2.2.2.1 bt102.2.2.2.2.2.2.2.2.2.2.2.2.2.2).bind fun bt118 => ((spec_FixedSpend.f k bt102.1 bt102.2.1 bt102.2.2.1 bt102.2.2.2.1 bt102.2.2.2.2.1 bt102.2.2.2.2.2.1 bt102.2.2.2.2.2.2.1 bt102.2.2.2.2.2.2.2.1 bt102.2.2.2.2.2.2.2.2.1 bt102.2.2.2.2.2.2.2.2.2.1 bt102.2.2.2.2.2.2.2.2.2.2.1 bt102.2.2.2.2.2.2.2.2.2.2.2.1 bt102.2.2.2.2.2.2.2.2.2.2.2.2.1 bt102.2.2.2.2.2.2.2.2.2.2.2.2.2.1 bt102.2.2.2.2.2.2.2.2.2.2.2.2.2.2).bind fun bt134 => (if (!(bt118.1 == bt134.1) || (!(bt118.2.1 == bt134.2.1) || (!(bt118.2.2.1 == bt134.2.2.1) || (!(bt118.2.2.2.1 == bt134.2.2.2.1) || (!(bt118.2.2.2.2.1 == bt134.2.2.2.2.1) || (!(bt118.2.2.2.2.2.1 == bt134.2.2.2.2.2.1) || (!(bt118.2.2.2.2.2.2.1 == bt134.2.2.2.2.2.2.1) || (!(bt118.2.2.2.2.2.2.2.1 == bt134.2.2.2.2.2.2.2.1) || (!(bt118.2.2.2.2.2.2.2.2.1 == bt134.2.2.2.2.2.2.2.2.1) || (!(bt118.2.2.2.2.2.2.2.2.2.1 == bt134.2.2.2.2.2.2.2.2.2.1) || (!(bt118.2.2.2.2.2.2.2.2.2.2.1 == bt134.2.2.2.2.2.2.2.2.2.2.1) || (!(bt118.2.2.2.2.2.2.2.2.2.2.2.1 == bt134.2.2.2.2.2.2.2.2.2.2.2.1) || (!(bt118.2.2.2.2.2.2.2.2.2.2.2.2.1 == bt134.2.2.2.2.2.2.2.2.2.2.2.2.1) || (!(bt118.2.2.2.2.2.2.2.2.2.2.2.2.2.1 == bt134.2.2.2.2.2.2.2.2.2.2.2.2.2.1))))))))))))))) = true then (laws_FnFixedTurns.j0 k bt102.2.2.2.2.2.2.2.2.2.2.2.2.2.2 bt118.2.2.2.2.2.2.2.2.2.2.2.2.2.2 true bt102.1 bt102.2.1 bt102.2.2.1 bt102.2.2.2.1 bt102.2.2.2.2.1 bt102.2.2.2.2.2.1 bt102.2.2.2.2.2.2.1 bt102.2.2.2.2.2.2.2.1 bt102.2.2.2.2.2.2.2.2.1 bt102.2.2.2.2.2.2.2.2.2.1 bt102.2.2.2.2.2.2.2.2.2.2.1 bt102.2.2.2.2.2.2.2.2.2.2.2.1 bt102.2.2.2.2.2.2.2.2.2.2.2.2.1 bt102.2.2.2.2.2.2.2.2.2.2.2.2.2.1 bt118.1 bt118.2.1 bt118.2.2.1 bt118.2.2.2.1 bt118.2.2.2.2.1 bt118.2.2.2.2.2.1 bt118.2.2.2.2.2.2.1 bt118.2.2.2.2.2.2.2.1 bt118.2.2.2.2.2.2.2.2.1 bt118.2.2.2.2.2.2.2.2.2.1 bt118.2.2.2.2.2.2.2.2.2.2.1 bt118.2.2.2.2.2.2.2.2.2.2.2.1 bt118.2.2.2.2.2.2.2.2.2.2.2.2.1 bt118.2.2.2.2.2.2.2.2.2.2.2.2.2.1) else (laws_FnFixedTurns.j0 k bt102.2.2.2.2.2.2.2.2.2.2.2.2.2.2 bt118.2.2.2.2.2.2.2.2.2.2.2.2.2.2 (bt118.2.2.2.2.2.2.2.2.2.2.2.2.2.2 != bt134.2.2.2.2.2.2.2.2.2.2.2.2.2.2) bt102.1 bt102.2.1 bt102.2.2.1 bt102.2.2.2.1 bt102.2.2.2.2.1 bt102.2.2.2.2.2.1 bt102.2.2.2.2.2.2.1 bt102.2.2.2.2.2.2.2.1 bt102.2.2.2.2.2.2.2.2.1 bt102.2.2.2.2.2.2.2.2.2.1 bt102.2.2.2.2.2.2.2.2.2.2.1 bt102.2.2.2.2.2.2.2.2.2.2.2.1 bt102.2.2.2.2.2.2.2.2.2.2.2.2.1 bt102.2.2.2.2.2.2.2.2.2.2.2.2.2.1 bt118.1 bt118.2.1 bt118.2.2.1 bt118.2.2.2.1 bt118.2.2.2.2.1 bt118.2.2.2.2.2.1 bt118.2.2.2.2.2.2.1 bt118.2.2.2.2.2.2.2.1 bt118.2.2.2.2.2.2.2.2.1 bt118.2.2.2.2.2.2.2.2.2.1 bt118.2.2.2.2.2.2.2.2.2.2.1 bt118.2.2.2.2.2.2.2.2.2.2.2.1 bt118.2.2.2.2.2.2.2.2.2.2.2.2.1 bt118.2.2.2.2.2.2.2.2.2.2.2.2.2.1))))) = some r := by rw [if_neg (show ¬ (false = true) by decide)] at H; exact H
  clear H
  have H := H1
  clear H1
  replace H := Option.bind_eq_some_iff.mp H
  obtain ⟨⟨t102, t103, t104, t105, t106, t107, t108, t109, t110, t111, t112, t113, t114, t115, t116⟩, A40, H⟩ := H
  replace H : ((impl_FixedSpend.f k t102 t103 t104 t105 t106 t107 t108 t109 t110 t111 t112 t113 t114 t115 t116).bind fun bt118 => ((spec_FixedSpend.f k t102 t103 t104 t105 t106 t107 t108 t109 t110 t111 t112 t113 t114 t115 t116).bind fun bt134 => (if (!(bt118.1 == bt134.1) || (!(bt118.2.1 == bt134.2.1) || (!(bt118.2.2.1 == bt134.2.2.1) || (!(bt118.2.2.2.1 == bt134.2.2.2.1) || (!(bt118.2.2.2.2.1 == bt134.2.2.2.2.1) || (!(bt118.2.2.2.2.2.1 == bt134.2.2.2.2.2.1) || (!(bt118.2.2.2.2.2.2.1 == bt134.2.2.2.2.2.2.1) || (!(bt118.2.2.2.2.2.2.2.1 == bt134.2.2.2.2.2.2.2.1) || (!(bt118.2.2.2.2.2.2.2.2.1 == bt134.2.2.2.2.2.2.2.2.1) || (!(bt118.2.2.2.2.2.2.2.2.2.1 == bt134.2.2.2.2.2.2.2.2.2.1) || (!(bt118.2.2.2.2.2.2.2.2.2.2.1 == bt134.2.2.2.2.2.2.2.2.2.2.1) || (!(bt118.2.2.2.2.2.2.2.2.2.2.2.1 == bt134.2.2.2.2.2.2.2.2.2.2.2.1) || (!(bt118.2.2.2.2.2.2.2.2.2.2.2.2.1 == bt134.2.2.2.2.2.2.2.2.2.2.2.2.1) || (!(bt118.2.2.2.2.2.2.2.2.2.2.2.2.2.1 == bt134.2.2.2.2.2.2.2.2.2.2.2.2.2.1))))))))))))))) = true then (laws_FnFixedTurns.j0 k t116 bt118.2.2.2.2.2.2.2.2.2.2.2.2.2.2 true t102 t103 t104 t105 t106 t107 t108 t109 t110 t111 t112 t113 t114 t115 bt118.1 bt118.2.1 bt118.2.2.1 bt118.2.2.2.1 bt118.2.2.2.2.1 bt118.2.2.2.2.2.1 bt118.2.2.2.2.2.2.1 bt118.2.2.2.2.2.2.2.1 bt118.2.2.2.2.2.2.2.2.1 bt118.2.2.2.2.2.2.2.2.2.1 bt118.2.2.2.2.2.2.2.2.2.2.1 bt118.2.2.2.2.2.2.2.2.2.2.2.1 bt118.2.2.2.2.2.2.2.2.2.2.2.2.1 bt118.2.2.2.2.2.2.2.2.2.2.2.2.2.1) else (laws_FnFixedTurns.j0 k t116 bt118.2.2.2.2.2.2.2.2.2.2.2.2.2.2 (bt118.2.2.2.2.2.2.2.2.2.2.2.2.2.2 != bt134.2.2.2.2.2.2.2.2.2.2.2.2.2.2) t102 t103 t104 t105 t106 t107 t108 t109 t110 t111 t112 t113 t114 t115 bt118.1 bt118.2.1 bt118.2.2.1 bt118.2.2.2.1 bt118.2.2.2.2.1 bt118.2.2.2.2.2.1 bt118.2.2.2.2.2.2.1 bt118.2.2.2.2.2.2.2.1 bt118.2.2.2.2.2.2.2.2.1 bt118.2.2.2.2.2.2.2.2.2.1 bt118.2.2.2.2.2.2.2.2.2.2.1 bt118.2.2.2.2.2.2.2.2.2.2.2.1 bt118.2.2.2.2.2.2.2.2.2.2.2.2.1 bt118.2.2.2.2.2.2.2.2.2.2.2.2.2.1)))) = some r := H
  have A4 := Aside0.mk A40
  clear A40
  replace H := Option.bind_eq_some_iff.mp H
  obtain ⟨⟨t118, t119, t120, t121, t122, t123, t124, t125, t126, t127, t128, t129, t130, t131, t132⟩, A50, H⟩ := H
  replace H : ((spec_FixedSpend.f k t102 t103 t104 t105 t106 t107 t108 t109 t110 t111 t112 t113 t114 t115 t116).bind fun bt134 => (if (!(t118 == bt134.1) || (!(t119 == bt134.2.1) || (!(t120 == bt134.2.2.1) || (!(t121 == bt134.2.2.2.1) || (!(t122 == bt134.2.2.2.2.1) || (!(t123 == bt134.2.2.2.2.2.1) || (!(t124 == bt134.2.2.2.2.2.2.1) || (!(t125 == bt134.2.2.2.2.2.2.2.1) || (!(t126 == bt134.2.2.2.2.2.2.2.2.1) || (!(t127 == bt134.2.2.2.2.2.2.2.2.2.1) || (!(t128 == bt134.2.2.2.2.2.2.2.2.2.2.1) || (!(t129 == bt134.2.2.2.2.2.2.2.2.2.2.2.1) || (!(t130 == bt134.2.2.2.2.2.2.2.2.2.2.2.2.1) || (!(t131 == bt134.2.2.2.2.2.2.2.2.2.2.2.2.2.1))))))))))))))) = true then (laws_FnFixedTurns.j0 k t116 t132 true t102 t103 t104 t105 t106 t107 t108 t109 t110 t111 t112 t113 t114 t115 t118 t119 t120 t121 t122 t123 t124 t125 t126 t127 t128 t129 t130 t131) else (laws_FnFixedTurns.j0 k t116 t132 (t132 != bt134.2.2.2.2.2.2.2.2.2.2.2.2.2.2) t102 t103 t104 t105 t106 t107 t108 t109 t110 t111 t112 t113 t114 t115 t118 t119 t120 t121 t122 t123 t124 t125 t126 t127 t128 t129 t130 t131))) = some r := H
  have A5 := Aside0.mk A50
  clear A50
  replace H := Option.bind_eq_some_iff.mp H
  obtain ⟨⟨t134, t135, t136, t137, t138, t139, t140, t141, t142, t143, t144, t145, t146, t147, t148⟩, A60, H⟩ := H
  replace H : (if (!(t118 == t134) || (!(t119 == t135) || (!(t120 == t136) || (!(t121 == t137) || (!(t122 == t138) || (!(t123 == t139) || (!(t124 == t140) || (!(t125 == t141) || (!(t126 == t142) || (!(t127 == t143) || (!(t128 == t144) || (!(t129 == t145) || (!(t130 == t146) || (!(t131 == t147))))))))))))))) = true then (laws_FnFixedTurns.j0 k t116 t132 true t102 t103 t104 t105 t106 t107 t108 t109 t110 t111 t112 t113 t114 t115 t118 t119 t120 t121 t122 t123 t124 t125 t126 t127 t128 t129 t130 t131) else (laws_FnFixedTurns.j0 k t116 t132 (t132 != t148) t102 t103 t104 t105 t106 t107 t108 t109 t110 t111 t112 t113 t114 t115 t118 t119 t120 t121 t122 t123 t124 t125 t126 t127 t128 t129 t130 t131)) = some r := H
  have A6 := Aside0.mk A60
  clear A60
  have HC7 := Aside0.mk H
  clear H
  go_enter Try.func5, Try.ntmps5
  go_upto_region 6 with (first | ((with_reducible refine gate_callee (f := 12) rfl ?_); refine gL (some 14) Try.func12 #[.slice A0 l0.length c0] ?_; (with_reducible refine (laws_big.calls _ _ l0 false _ ?side1 ?side2 A2.out).mono ?_); (case side1 => repeat (first | exact HR0.out | (with_reducible refine Kd.C_alloc ?_ _) | (with_reducible refine Kd.C_drewN ?_ _) | (with_reducible refine Kd.C_drew ?_))); (case side2 => exact HC0.out); rintro e w' ⟨rfl, ⟨nd, rfl⟩⟩; refine ⟨_, rfl, ?_⟩) | ((with_reducible refine gate_callee (f := 27) rfl ?_); refine gL (some 17) Try.func27 #[.slice A0 l0.length c0] ?_; (with_reducible refine (spec_DrawFixedSpend.calls k _ _ l0 t102 t103 t104 t105 t106 t107 t108 t109 t110 t111 t112 t113 t114 t115 t116 _ ?side1 ?side2 A4.out).mono ?_); (case side1 => repeat (first | exact HR0.out | (with_reducible refine Kd.C_alloc ?_ _) | (with_reducible refine Kd.C_drewN ?_ _) | (with_reducible refine Kd.C_drew ?_))); (case side2 => exact HC0.out); rintro e w8 ⟨rfl, hb⟩; refine ⟨_, rfl, ?_⟩; have n0_ := aM (below_step (bq HB) hb); clear HB; have HB := n0_; clear n0_; (try clear hb); (try clear hb2); (try clear hk); (try clear hi)) | ((with_reducible refine gate_dst (N := 3) rfl ?_); refine box_event ?hg (N := 3) ?hd (cs := tk14 0 0 0 0 false 0 0 0 0 0 0 0 0 0) (t := 27) ?hr ?_; (case hd => rfl); (case hg => rfl); (case hr => first | (go_simp; done) | (go_simp; rfl)); intro gb117 hg w9 hbox hb; have n0_ := aM (below_step (bq HB) hb); have n1_ := aM (hbox); have n2_ := aM ((by rw [hg]; exact (below_size (bq HB)) : w.heap.size ≤ gb117)); have n3_ := n2_; clear HB; have HB := n0_; have BK117 := n1_; have GW117 := n2_; have GE117 := n3_; clear n0_ n1_ n2_ n3_; clear hb hbox hg; obtain ⟨_,_,_,_,_,_,_,_,_,_,_,_,_,_⟩ := cz14 BK117.out; have hfz10_0 := blk_frozen BK117.out) | ((with_reducible refine gate_callee (f := 28) rfl ?_); refine gL (some 23) Try.func28 #[.agg #[.int .i64 t102, .int .i64 t103, .int .i64 t104, .int .i64 t105, .bool t106, .int .i64 t107, .int .i64 t108, .int .i64 t109, .int .i64 t110, .int .i64 t111, .int .i64 t112, .int .i64 t113, .int .i64 t114, .int .i64 t115], .int .i64 t116] ?_; (with_reducible refine (impl_FixedSpend.calls k t102 t103 t104 t105 t106 t107 t108 t109 t110 t111 t112 t113 t114 t115 t116 t118 t119 t120 t121 t122 t123 t124 t125 t126 t127 t128 t129 t130 t131 t132 _ A5.out).mono ?_); rintro e w11 ⟨rfl, hb⟩; refine ⟨_, rfl, ?_⟩; have n0_ := aM (blk_below (g := gb117) (o := .cells (tk14 t102 t103 t104 t105 t106 t107 t108 t109 t110 t111 t112 t113 t114 t115) 27 (0, 0)) (by refine put14 (cs := tk14 0 0 0 0 false 0 0 0 0 0 0 0 0 0) ?_; (with_reducible repeat (first | apply bkD | apply bkd | apply bkA)); exact BK117.out) hb); have n1_ := aM (below_step (bq HB) hb); clear BK117 HB; have BK117 := n0_; have HB := n1_; clear n0_ n1_; (try clear hb); (try clear hb2); (try clear hk); (try clear hi)) | ((with_reducible refine gate_dst (N := 5) rfl ?_); refine box_event ?hg (N := 5) ?hd (cs := tk14 0 0 0 0 false 0 0 0 0 0 0 0 0 0) (t := 27) ?hr ?_; (case hd => rfl); (case hg => rfl); (case hr => first | (go_simp; done) | (go_simp; rfl)); intro gb133 hg w12 hbox hb; have n0_ := aM (blk_below (kq BK117) hb); have n1_ := aM (below_step (bq HB) hb); have n2_ := aM (hbox); have n3_ := aM ((by rw [hg]; exact (below_size (bq HB)) : w.heap.size ≤ gb133)); have n4_ := n3_; have n5_ := aM ((by rw [hg]; exact Nat.ne_of_lt (blk_lt (kq BK117)) : gb117 ≠ gb133)); have n6_ := aM (n5_.out.symm); clear BK117 HB; have BK117 := n0_; have HB := n1_; have BK133 := n2_; have GW133 := n3_; have GE133 := n4_; have NB117_133 := n5_; have NB133_117 := n6_; clear n0_ n1_ n2_ n3_ n4_ n5_ n6_; clear hb hbox hg; have hnb13 := NB133_117.out; have hnc13 := NB117_133.out; obtain ⟨_,_,_,_,_,_,_,_,_,_,_,_,_,_⟩ := cz14 BK133.out; have hfz14_0 := blk_frozen BK133.out; obtain ⟨_,_,_,_,_,_,_,_,_,_,_,_,_,_⟩ := cz14 BK117.out; have hfz15_0 := blk_frozen BK117.out) | ((with_reducible refine gate_callee (f := 29) rfl ?_); refine gL (some 29) Try.func29 #[.agg #[.int .i64 t102, .int .i64 t103, .int .i64 t104, .int .i64 t105, .bool t106, .int .i64 t107, .int .i64 t108, .int .i64 t109, .int .i64 t110, .int .i64 t111, .int .i64 t112, .int .i64 t113, .int .i64 t114, .int .i64 t115], .int .i64 t116] ?_; (with_reducible refine (spec_FixedSpend.calls k t102 t103 t104 t105 t106 t107 t108 t109 t110 t111 t112 t113 t114 t115 t116 t134 t135 t136 t137 t138 t139 t140 t141 t142 t143 t144 t145 t146 t147 t148 _ A6.out).mono ?_); rintro e w16 ⟨rfl, hb⟩; refine ⟨_, rfl, ?_⟩; have n0_ := aM (blk_below (g := gb117) (o := .cells (tk14 t102 t103 t104 t105 t106 t107 t108 t109 t110 t111 t112 t113 t114 t115) 27 (0, 0)) (by refine far14 ?_ NB117_133.out; (with_reducible repeat (first | apply bkD | apply bkd | apply bkA)); exact BK117.out) hb); have n1_ := aM (blk_below (g := gb133) (o := .cells (tk14 t118 t119 t120 t121 t122 t123 t124 t125 t126 t127 t128 t129 t130 t131) 27 (0, 0)) (by refine put14 (cs := tk14 0 0 0 0 false 0 0 0 0 0 0 0 0 0) ?_; (with_reducible repeat (first | apply bkD | apply bkd | apply bkA)); exact BK133.out) hb); have n2_ := aM (below_step (bq HB) hb); clear BK117 BK133 HB; have BK117 := n0_; have BK133 := n1_; have HB := n2_; clear n0_ n1_ n2_; (try clear hb); (try clear hb2); (try clear hk); (try clear hi)) | ((with_reducible refine gate_dst (N := 7) rfl ?_); refine box_event ?hg (N := 7) ?hd (cs := tk14 0 0 0 0 false 0 0 0 0 0 0 0 0 0) (t := 27) ?hr ?_; (case hd => rfl); (case hg => rfl); (case hr => first | (go_simp; done) | (go_simp; rfl)); intro gb149 hg w17 hbox hb; have n0_ := aM (blk_below (kq BK117) hb); have n1_ := aM (blk_below (kq BK133) hb); have n2_ := aM (below_step (bq HB) hb); have n3_ := aM (hbox); have n4_ := aM ((by rw [hg]; exact (below_size (bq HB)) : w.heap.size ≤ gb149)); have n5_ := n4_; have n6_ := aM ((by rw [hg]; exact Nat.ne_of_lt (blk_lt (kq BK117)) : gb117 ≠ gb149)); have n7_ := aM (n6_.out.symm); have n8_ := aM ((by rw [hg]; exact Nat.ne_of_lt (blk_lt (kq BK133)) : gb133 ≠ gb149)); have n9_ := aM (n8_.out.symm); clear BK117 BK133 HB; have BK117 := n0_; have BK133 := n1_; have HB := n2_; have BK149 := n3_; have GW149 := n4_; have GE149 := n5_; have NB117_149 := n6_; have NB149_117 := n7_; have NB133_149 := n8_; have NB149_133 := n9_; clear n0_ n1_ n2_ n3_ n4_ n5_ n6_ n7_ n8_ n9_; clear hb hbox hg; have hnb18 := NB149_117.out; have hnc18 := NB117_149.out; have hnb19 := NB149_133.out; have hnc19 := NB133_149.out; obtain ⟨_,_,_,_,_,_,_,_,_,_,_,_,_,_⟩ := cz14 BK149.out; have hfz20_0 := blk_frozen BK149.out))
  (try simp only [Act.put, tA, tB, tC])
  go_cut [39] (fun v39 wc => ∃ (kq : Nat) (x39_6 : Bool), v39 = .bool x39_6 ∧ Aside0 (laws_FnFixedTurns.j0 kq t116 t132 x39_6 t102 t103 t104 t105 t106 t107 t108 t109 t110 t111 t112 t113 t114 t115 t118 t119 t120 t121 t122 t123 t124 t125 t126 t127 t128 t129 t130 t131 = some r) ∧ Aside0 (kq ≤ k) ∧ Aside0 (wc.heap[gb117]? = some (.cells #[.int .i64 t102, .int .i64 t103, .int .i64 t104, .int .i64 t105, .bool t106, .int .i64 t107, .int .i64 t108, .int .i64 t109, .int .i64 t110, .int .i64 t111, .int .i64 t112, .int .i64 t113, .int .i64 t114, .int .i64 t115] 27 (0, 0))) ∧ Aside0 (wc.heap[gb133]? = some (.cells #[.int .i64 t118, .int .i64 t119, .int .i64 t120, .int .i64 t121, .bool t122, .int .i64 t123, .int .i64 t124, .int .i64 t125, .int .i64 t126, .int .i64 t127, .int .i64 t128, .int .i64 t129, .int .i64 t130, .int .i64 t131] 27 (0, 0))) ∧ Aside0 (wc.heap[gb149]? = some (.cells #[.int .i64 t134, .int .i64 t135, .int .i64 t136, .int .i64 t137, .bool t138, .int .i64 t139, .int .i64 t140, .int .i64 t141, .int .i64 t142, .int .i64 t143, .int .i64 t144, .int .i64 t145, .int .i64 t146, .int .i64 t147] 27 (0, 0))) ∧ Aside0 (Below w.heap.size w wc))
  case first =>
    focus
      have H := HC7.out
      clear HC7
      by_cases c21 : (!(t118 == t134) || (!(t119 == t135) || (!(t120 == t136) || (!(t121 == t137) || (!(t122 == t138) || (!(t123 == t139) || (!(t124 == t140) || (!(t125 == t141) || (!(t126 == t142) || (!(t127 == t143) || (!(t128 == t144) || (!(t129 == t145) || (!(t130 == t146) || (!(t131 == t147))))))))))))))) = true
      · focus
          rw [if_pos c21] at H
          have c21b0 : (!(t118 == t134) || (!(t119 == t135) || (!(t120 == t136) || (!(t121 == t137) || (!(t122 == t138) || (!(t123 == t139) || (!(t124 == t140) || (!(t125 == t141) || (!(t126 == t142) || (!(t127 == t143) || (!(t128 == t144) || (!(t129 == t145) || (!(t130 == t146) || (!(t131 == t147))))))))))))))) = true := c21
          clear c21
          (first | rw [c21b0] | (simp only [i64_w, i32_w]; rw [c21b0]) | skip)
          have H' := Aside0.mk H
          clear H
          have hnb22 := NB133_117.out
          have hnc22 := NB117_133.out
          have hnb23 := NB133_149.out
          have hnc23 := NB149_133.out
          obtain ⟨_,_,_,_,_,_,_,_,_,_,_,_,_,_⟩ := cz14 BK133.out
          have hfz24_0 := blk_frozen BK133.out
          have hnb25 := NB149_117.out
          have hnc25 := NB117_149.out
          obtain ⟨_,_,_,_,_,_,_,_,_,_,_,_,_,_⟩ := cz14 BK149.out
          have hfz26_0 := blk_frozen BK149.out
          go_wp2
          go_meet
          case rel => exact ⟨_, (true), (by first | rfl | (simp; done) | (simp [*]; done)), H', ⟨by first | omega | exact Nat.le_refl _⟩, ⟨by refine far14 ?_ NB117_149.out; (with_reducible repeat (first | apply bkD | apply bkd | apply bkA)); exact BK117.out⟩, ⟨by refine far14 ?_ NB133_149.out; (with_reducible repeat (first | apply bkD | apply bkd | apply bkA)); exact BK133.out⟩, ⟨by refine put14 (cs := tk14 0 0 0 0 false 0 0 0 0 0 0 0 0 0) ?_; (with_reducible repeat (first | apply bkD | apply bkd | apply bkA)); exact BK149.out⟩, ⟨bq HB⟩⟩
      rw [if_neg c21] at H
      have c21b0 : (!(t118 == t134) || (!(t119 == t135) || (!(t120 == t136) || (!(t121 == t137) || (!(t122 == t138) || (!(t123 == t139) || (!(t124 == t140) || (!(t125 == t141) || (!(t126 == t142) || (!(t127 == t143) || (!(t128 == t144) || (!(t129 == t145) || (!(t130 == t146) || (!(t131 == t147))))))))))))))) = false := by simpa using c21
      clear c21
      (first | rw [c21b0] | (simp only [i64_w, i32_w]; rw [c21b0]) | skip)
      have H' := Aside0.mk H
      clear H
      have hnb27 := NB133_117.out
      have hnc27 := NB117_133.out
      have hnb28 := NB133_149.out
      have hnc28 := NB149_133.out
      obtain ⟨_,_,_,_,_,_,_,_,_,_,_,_,_,_⟩ := cz14 BK133.out
      have hfz29_0 := blk_frozen BK133.out
      have hnb30 := NB149_117.out
      have hnc30 := NB117_149.out
      obtain ⟨_,_,_,_,_,_,_,_,_,_,_,_,_,_⟩ := cz14 BK149.out
      have hfz31_0 := blk_frozen BK149.out
      go_wp2
      go_meet
      case rel => exact ⟨_, ((t132 != t148)), (by first | rfl | (simp; done) | (simp [*]; done)), H', ⟨by first | omega | exact Nat.le_refl _⟩, ⟨by refine far14 ?_ NB117_149.out; (with_reducible repeat (first | apply bkD | apply bkd | apply bkA)); exact BK117.out⟩, ⟨by refine far14 ?_ NB133_149.out; (with_reducible repeat (first | apply bkD | apply bkd | apply bkA)); exact BK133.out⟩, ⟨by refine put14 (cs := tk14 0 0 0 0 false 0 0 0 0 0 0 0 0 0) ?_; (with_reducible repeat (first | apply bkD | apply bkd | apply bkA)); exact BK149.out⟩, ⟨bq HB⟩⟩
  case rest =>
    focus
      clear HC7
      try clear c1
      try clear c2
      try clear p2
      try clear c3
      try clear c5
      try clear c12
      try clear c13
      try clear c18
      try clear c19
      try clear c21
      try clear c21b0
      try clear c22
      try clear c23
      try clear c25
      try clear c27
      try clear c28
      try clear c29
      try clear c30
      try clear hfz10_0
      try clear hfz14_0
      try clear hfz15_0
      try clear hfz20_0
      try clear hfz24_0
      try clear hfz26_0
      try clear hfz29_0
      try clear hfz31_0
      obtain ⟨kq, x39_6, rfl, HA, HJ6, BK117, BK133, BK149, HB⟩ := hcut
      cases kq with
      | zero => exact absurd HA.out (by simp [laws_FnFixedTurns.j0])
      | succ kj6 =>
        have H := HA.out
        clear HA
        simp only [laws_FnFixedTurns.j0] at H
        by_cases c32 : x39_6 = true
        · subst c32
          have H1 : (some false) = some r := by rw [if_pos rfl] at H; exact H
          clear H
          have H := H1
          clear H1
          exact absurd ((Option.some.inj H).trans HRT.out) Bool.false_ne_true
        replace c32 := Bool.eq_false_iff.mpr c32
        subst c32
        have H1 : ((spec_TaskOk.f t102 t103 t104 t105 t106 t107 t108 t109 t110 t111 t112 t113 t114 t115).bind fun t150 => (if t150 = true then (if t103 = 2 then (if t112 = 0 then (laws_FnFixedTurns.j1 kj6 t116 t132 true t102 t103 t104 t105 t106 t107 t108 t109 t110 t111 t112 t113 t114 t115 t118 t119 t120 t121 t122 t123 t124 t125 t126 t127 t128 t129 t130 t131) else (if t116 < 0 then (laws_FnFixedTurns.j1 kj6 t116 t132 true t102 t103 t104 t105 t106 t107 t108 t109 t110 t111 t112 t113 t114 t115 t118 t119 t120 t121 t122 t123 t124 t125 t126 t127 t128 t129 t130 t131) else (laws_FnFixedTurns.j1 kj6 t116 t132 (decide (t116 > 1000000)) t102 t103 t104 t105 t106 t107 t108 t109 t110 t111 t112 t113 t114 t115 t118 t119 t120 t121 t122 t123 t124 t125 t126 t127 t128 t129 t130 t131))) else (laws_FnFixedTurns.j1 kj6 t116 t132 true t102 t103 t104 t105 t106 t107 t108 t109 t110 t111 t112 t113 t114 t115 t118 t119 t120 t121 t122 t123 t124 t125 t126 t127 t128 t129 t130 t131)) else (laws_FnFixedTurns.j1 kj6 t116 t132 true t102 t103 t104 t105 t106 t107 t108 t109 t110 t111 t112 t113 t114 t115 t118 t119 t120 t121 t122 t123 t124 t125 t126 t127 t128 t129 t130 t131))) = some r := by rw [if_neg (show ¬ (false = true) by decide)] at H; exact H
        clear H
        have H := H1
        clear H1
        have HC33 := Aside0.mk H
        clear H
        go_upto_region 8 with (fail)
        go_cut [60] (fun v60 wc => ∃ (kq : Nat) (x60_32 : Bool), v60 = .bool x60_32 ∧ Aside0 (laws_FnFixedTurns.j1 kq t116 t132 x60_32 t102 t103 t104 t105 t106 t107 t108 t109 t110 t111 t112 t113 t114 t115 t118 t119 t120 t121 t122 t123 t124 t125 t126 t127 t128 t129 t130 t131 = some r) ∧ Aside0 (kq ≤ kj6) ∧ Aside0 (wc.heap[gb117]? = some (.cells #[.int .i64 t102, .int .i64 t103, .int .i64 t104, .int .i64 t105, .bool t106, .int .i64 t107, .int .i64 t108, .int .i64 t109, .int .i64 t110, .int .i64 t111, .int .i64 t112, .int .i64 t113, .int .i64 t114, .int .i64 t115] 27 (0, 0))) ∧ Aside0 (wc.heap[gb133]? = some (.cells #[.int .i64 t118, .int .i64 t119, .int .i64 t120, .int .i64 t121, .bool t122, .int .i64 t123, .int .i64 t124, .int .i64 t125, .int .i64 t126, .int .i64 t127, .int .i64 t128, .int .i64 t129, .int .i64 t130, .int .i64 t131] 27 (0, 0))) ∧ Aside0 (wc.heap[gb149]? = some (.cells #[.int .i64 t134, .int .i64 t135, .int .i64 t136, .int .i64 t137, .bool t138, .int .i64 t139, .int .i64 t140, .int .i64 t141, .int .i64 t142, .int .i64 t143, .int .i64 t144, .int .i64 t145, .int .i64 t146, .int .i64 t147] 27 (0, 0))) ∧ Aside0 (Below w.heap.size w wc))
        case first =>
          refine @id ?T1 ?_
          let rec ax1 : ?T1 := by
            clear ax1
            have H := HC33.out
            clear HC33
            replace H := Option.bind_eq_some_iff.mp H
            obtain ⟨t150, A340, H⟩ := H
            replace H : (if t150 = true then (if t103 = 2 then (if t112 = 0 then (laws_FnFixedTurns.j1 kj6 t116 t132 true t102 t103 t104 t105 t106 t107 t108 t109 t110 t111 t112 t113 t114 t115 t118 t119 t120 t121 t122 t123 t124 t125 t126 t127 t128 t129 t130 t131) else (if t116 < 0 then (laws_FnFixedTurns.j1 kj6 t116 t132 true t102 t103 t104 t105 t106 t107 t108 t109 t110 t111 t112 t113 t114 t115 t118 t119 t120 t121 t122 t123 t124 t125 t126 t127 t128 t129 t130 t131) else (laws_FnFixedTurns.j1 kj6 t116 t132 (decide (t116 > 1000000)) t102 t103 t104 t105 t106 t107 t108 t109 t110 t111 t112 t113 t114 t115 t118 t119 t120 t121 t122 t123 t124 t125 t126 t127 t128 t129 t130 t131))) else (laws_FnFixedTurns.j1 kj6 t116 t132 true t102 t103 t104 t105 t106 t107 t108 t109 t110 t111 t112 t113 t114 t115 t118 t119 t120 t121 t122 t123 t124 t125 t126 t127 t128 t129 t130 t131)) else (laws_FnFixedTurns.j1 kj6 t116 t132 true t102 t103 t104 t105 t106 t107 t108 t109 t110 t111 t112 t113 t114 t115 t118 t119 t120 t121 t122 t123 t124 t125 t126 t127 t128 t129 t130 t131)) = some r := H
            have A34 := Aside0.mk A340
            clear A340
            by_cases c35 : t150 = true
            · subst c35
              have H1 : (if t103 = 2 then (if t112 = 0 then (laws_FnFixedTurns.j1 kj6 t116 t132 true t102 t103 t104 t105 t106 t107 t108 t109 t110 t111 t112 t113 t114 t115 t118 t119 t120 t121 t122 t123 t124 t125 t126 t127 t128 t129 t130 t131) else (if t116 < 0 then (laws_FnFixedTurns.j1 kj6 t116 t132 true t102 t103 t104 t105 t106 t107 t108 t109 t110 t111 t112 t113 t114 t115 t118 t119 t120 t121 t122 t123 t124 t125 t126 t127 t128 t129 t130 t131) else (laws_FnFixedTurns.j1 kj6 t116 t132 (decide (t116 > 1000000)) t102 t103 t104 t105 t106 t107 t108 t109 t110 t111 t112 t113 t114 t115 t118 t119 t120 t121 t122 t123 t124 t125 t126 t127 t128 t129 t130 t131))) else (laws_FnFixedTurns.j1 kj6 t116 t132 true t102 t103 t104 t105 t106 t107 t108 t109 t110 t111 t112 t113 t114 t115 t118 t119 t120 t121 t122 t123 t124 t125 t126 t127 t128 t129 t130 t131)) = some r := by rw [if_pos rfl] at H; exact H
              clear H
              have H := H1
              clear H1
              by_cases c36 : t103 = 2
              · refine @id ?T2 ?_
                let rec ax2 : ?T2 := by
                  clear ax2
                  rw [if_pos c36] at H
                  have c36b0 : (t103 == 2) = true := beq_iff_eq.mpr c36
                  have c36b1 : (t103 != 2) = false := bne_eq_false_iff_eq.mpr c36
                  clear c36
                  (first | rw [c36b0] | (simp only [i64_w, i32_w]; rw [c36b0]) | skip)
                  by_cases c37 : t112 = 0
                  · refine @id ?T3 ?_
                    let rec ax3 : ?T3 := by
                      clear ax3
                      rw [if_pos c37] at H
                      have c37b0 : (t112 == 0) = true := beq_iff_eq.mpr c37
                      have c37b1 : (t112 != 0) = false := bne_eq_false_iff_eq.mpr c37
                      clear c37
                      have H' := Aside0.mk H
                      clear H
                      have hnb38 := NB117_133.out
                      have hnc38 := NB133_117.out
                      have hnb39 := NB117_149.out
                      have hnc39 := NB149_117.out
                      obtain ⟨_,_,_,_,_,_,_,_,_,_,_,_,_,_⟩ := cz14 BK117.out
                      have hfz40_0 := blk_frozen BK117.out
                      go_wp2_with (first | ((with_reducible refine gate_callee (f := 26) rfl ?_); refine gL (some 41) Try.func26 #[.agg #[.int .i64 t102, .int .i64 t103, .int .i64 t104, .int .i64 t105, .bool t106, .int .i64 t107, .int .i64 t108, .int .i64 t109, .int .i64 t110, .int .i64 t111, .int .i64 t112, .int .i64 t113, .int .i64 t114, .int .i64 t115]] ?_; (with_reducible refine (spec_TaskOk.calls t102 t103 t104 t105 t106 t107 t108 t109 t110 t111 t112 t113 t114 t115 true _ A34.out).mono ?_); rintro e w41 ⟨rfl, hb⟩; refine ⟨_, rfl, ?_⟩; have n0_ := aM (blk_below (kq BK117) hb); have n1_ := aM (blk_below (kq BK133) hb); have n2_ := aM (blk_below (kq BK149) hb); have n3_ := aM (below_step (bq HB) hb); clear BK117 BK133 BK149 HB; have BK117 := n0_; have BK133 := n1_; have BK149 := n2_; have HB := n3_; clear n0_ n1_ n2_ n3_; (try clear hb); (try clear hb2); (try clear hk); (try clear hi); obtain ⟨_,_,_,_,_,_,_,_,_,_,_,_,_,_⟩ := cz14 BK117.out; have hfz42_0 := blk_frozen BK117.out))
                      go_meet
                      case rel => exact ⟨_, (true), (by first | rfl | (simp; done) | (simp [*]; done)), H', ⟨by have := HJ6.out; first | omega | exact Nat.le_refl _⟩, ⟨by (with_reducible repeat (first | apply bkD | apply bkd | apply bkA)); exact BK117.out⟩, ⟨by (with_reducible repeat (first | apply bkD | apply bkd | apply bkA)); exact BK133.out⟩, ⟨by (with_reducible repeat (first | apply bkD | apply bkd | apply bkA)); exact BK149.out⟩, ⟨bq HB⟩⟩
                    exact ax3
                  rw [if_neg c37] at H
                  have c37b0 : (t112 == 0) = false := beq_eq_false_iff_ne.mpr c37
                  have c37b1 : (t112 != 0) = true := bne_iff_ne.mpr c37
                  by_cases c43 : t116 < 0
                  · refine @id ?T4 ?_
                    let rec ax4 : ?T4 := by
                      clear ax4
                      rw [if_pos c43] at H
                      have c43b0 : decide (t116 < 0) = true := decide_eq_true c43
                      clear c43
                      have H' := Aside0.mk H
                      clear H
                      have hnb44 := NB117_133.out
                      have hnc44 := NB133_117.out
                      have hnb45 := NB117_149.out
                      have hnc45 := NB149_117.out
                      obtain ⟨_,_,_,_,_,_,_,_,_,_,_,_,_,_⟩ := cz14 BK117.out
                      have hfz46_0 := blk_frozen BK117.out
                      go_wp2_with (first | ((with_reducible refine gate_callee (f := 26) rfl ?_); refine gL (some 41) Try.func26 #[.agg #[.int .i64 t102, .int .i64 t103, .int .i64 t104, .int .i64 t105, .bool t106, .int .i64 t107, .int .i64 t108, .int .i64 t109, .int .i64 t110, .int .i64 t111, .int .i64 t112, .int .i64 t113, .int .i64 t114, .int .i64 t115]] ?_; (with_reducible refine (spec_TaskOk.calls t102 t103 t104 t105 t106 t107 t108 t109 t110 t111 t112 t113 t114 t115 true _ A34.out).mono ?_); rintro e w47 ⟨rfl, hb⟩; refine ⟨_, rfl, ?_⟩; have n0_ := aM (blk_below (kq BK117) hb); have n1_ := aM (blk_below (kq BK133) hb); have n2_ := aM (blk_below (kq BK149) hb); have n3_ := aM (below_step (bq HB) hb); clear BK117 BK133 BK149 HB; have BK117 := n0_; have BK133 := n1_; have BK149 := n2_; have HB := n3_; clear n0_ n1_ n2_ n3_; (try clear hb); (try clear hb2); (try clear hk); (try clear hi); obtain ⟨_,_,_,_,_,_,_,_,_,_,_,_,_,_⟩ := cz14 BK117.out; have hfz48_0 := blk_frozen BK117.out))
                      go_meet
                      case rel => exact ⟨_, (true), (by first | rfl | (simp; done) | (simp [*]; done)), H', ⟨by have := HJ6.out; first | omega | exact Nat.le_refl _⟩, ⟨by (with_reducible repeat (first | apply bkD | apply bkd | apply bkA)); exact BK117.out⟩, ⟨by (with_reducible repeat (first | apply bkD | apply bkd | apply bkA)); exact BK133.out⟩, ⟨by (with_reducible repeat (first | apply bkD | apply bkd | apply bkA)); exact BK149.out⟩, ⟨bq HB⟩⟩
                    exact ax4
                  rw [if_neg c43] at H
                  have c43b0 : decide (t116 < 0) = false := decide_eq_false c43
                  clear c43
                  have H' := Aside0.mk H
                  clear H
                  have hnb49 := NB117_133.out
                  have hnc49 := NB133_117.out
                  have hnb50 := NB117_149.out
                  have hnc50 := NB149_117.out
                  obtain ⟨_,_,_,_,_,_,_,_,_,_,_,_,_,_⟩ := cz14 BK117.out
                  have hfz51_0 := blk_frozen BK117.out
                  go_wp2_with (first | ((with_reducible refine gate_callee (f := 26) rfl ?_); refine gL (some 41) Try.func26 #[.agg #[.int .i64 t102, .int .i64 t103, .int .i64 t104, .int .i64 t105, .bool t106, .int .i64 t107, .int .i64 t108, .int .i64 t109, .int .i64 t110, .int .i64 t111, .int .i64 t112, .int .i64 t113, .int .i64 t114, .int .i64 t115]] ?_; (with_reducible refine (spec_TaskOk.calls t102 t103 t104 t105 t106 t107 t108 t109 t110 t111 t112 t113 t114 t115 true _ A34.out).mono ?_); rintro e w52 ⟨rfl, hb⟩; refine ⟨_, rfl, ?_⟩; have n0_ := aM (blk_below (kq BK117) hb); have n1_ := aM (blk_below (kq BK133) hb); have n2_ := aM (blk_below (kq BK149) hb); have n3_ := aM (below_step (bq HB) hb); clear BK117 BK133 BK149 HB; have BK117 := n0_; have BK133 := n1_; have BK149 := n2_; have HB := n3_; clear n0_ n1_ n2_ n3_; (try clear hb); (try clear hb2); (try clear hk); (try clear hi); obtain ⟨_,_,_,_,_,_,_,_,_,_,_,_,_,_⟩ := cz14 BK117.out; have hfz53_0 := blk_frozen BK117.out))
                  go_meet
                  case rel => exact ⟨_, (decide (t116 > 1000000)), (by first | rfl | (simp; done) | (simp [*]; done)), H', ⟨by have := HJ6.out; first | omega | exact Nat.le_refl _⟩, ⟨by (with_reducible repeat (first | apply bkD | apply bkd | apply bkA)); exact BK117.out⟩, ⟨by (with_reducible repeat (first | apply bkD | apply bkd | apply bkA)); exact BK133.out⟩, ⟨by (with_reducible repeat (first | apply bkD | apply bkd | apply bkA)); exact BK149.out⟩, ⟨bq HB⟩⟩
                exact ax2
              rw [if_neg c36] at H
              have c36b0 : (t103 == 2) = false := beq_eq_false_iff_ne.mpr c36
              have c36b1 : (t103 != 2) = true := bne_iff_ne.mpr c36
              (first | rw [c36b0] | (simp only [i64_w, i32_w]; rw [c36b0]) | skip)
              have H' := Aside0.mk H
              clear H
              have hnb54 := NB117_133.out
              have hnc54 := NB133_117.out
              have hnb55 := NB117_149.out
              have hnc55 := NB149_117.out
              obtain ⟨_,_,_,_,_,_,_,_,_,_,_,_,_,_⟩ := cz14 BK117.out
              have hfz56_0 := blk_frozen BK117.out
              go_wp2_with (first | ((with_reducible refine gate_callee (f := 26) rfl ?_); refine gL (some 41) Try.func26 #[.agg #[.int .i64 t102, .int .i64 t103, .int .i64 t104, .int .i64 t105, .bool t106, .int .i64 t107, .int .i64 t108, .int .i64 t109, .int .i64 t110, .int .i64 t111, .int .i64 t112, .int .i64 t113, .int .i64 t114, .int .i64 t115]] ?_; (with_reducible refine (spec_TaskOk.calls t102 t103 t104 t105 t106 t107 t108 t109 t110 t111 t112 t113 t114 t115 true _ A34.out).mono ?_); rintro e w57 ⟨rfl, hb⟩; refine ⟨_, rfl, ?_⟩; have n0_ := aM (blk_below (kq BK117) hb); have n1_ := aM (blk_below (kq BK133) hb); have n2_ := aM (blk_below (kq BK149) hb); have n3_ := aM (below_step (bq HB) hb); clear BK117 BK133 BK149 HB; have BK117 := n0_; have BK133 := n1_; have BK149 := n2_; have HB := n3_; clear n0_ n1_ n2_ n3_; (try clear hb); (try clear hb2); (try clear hk); (try clear hi); obtain ⟨_,_,_,_,_,_,_,_,_,_,_,_,_,_⟩ := cz14 BK117.out; have hfz58_0 := blk_frozen BK117.out))
              go_meet
              case rel => exact ⟨_, (true), (by first | rfl | (simp; done) | (simp [*]; done)), H', ⟨by have := HJ6.out; first | omega | exact Nat.le_refl _⟩, ⟨by (with_reducible repeat (first | apply bkD | apply bkd | apply bkA)); exact BK117.out⟩, ⟨by (with_reducible repeat (first | apply bkD | apply bkd | apply bkA)); exact BK133.out⟩, ⟨by (with_reducible repeat (first | apply bkD | apply bkd | apply bkA)); exact BK149.out⟩, ⟨bq HB⟩⟩
            replace c35 := Bool.eq_false_iff.mpr c35
            subst c35
            have H1 : (laws_FnFixedTurns.j1 kj6 t116 t132 true t102 t103 t104 t105 t106 t107 t108 t109 t110 t111 t112 t113 t114 t115 t118 t119 t120 t121 t122 t123 t124 t125 t126 t127 t128 t129 t130 t131) = some r := by rw [if_neg (show ¬ (false = true) by decide)] at H; exact H
            clear H
            have H := H1
            clear H1
            have H' := Aside0.mk H
            clear H
            have hnb59 := NB117_133.out
            have hnc59 := NB133_117.out
            have hnb60 := NB117_149.out
            have hnc60 := NB149_117.out
            obtain ⟨_,_,_,_,_,_,_,_,_,_,_,_,_,_⟩ := cz14 BK117.out
            have hfz61_0 := blk_frozen BK117.out
            go_wp2_with (first | ((with_reducible refine gate_callee (f := 26) rfl ?_); refine gL (some 41) Try.func26 #[.agg #[.int .i64 t102, .int .i64 t103, .int .i64 t104, .int .i64 t105, .bool t106, .int .i64 t107, .int .i64 t108, .int .i64 t109, .int .i64 t110, .int .i64 t111, .int .i64 t112, .int .i64 t113, .int .i64 t114, .int .i64 t115]] ?_; (with_reducible refine (spec_TaskOk.calls t102 t103 t104 t105 t106 t107 t108 t109 t110 t111 t112 t113 t114 t115 false _ A34.out).mono ?_); rintro e w62 ⟨rfl, hb⟩; refine ⟨_, rfl, ?_⟩; have n0_ := aM (blk_below (kq BK117) hb); have n1_ := aM (blk_below (kq BK133) hb); have n2_ := aM (blk_below (kq BK149) hb); have n3_ := aM (below_step (bq HB) hb); clear BK117 BK133 BK149 HB; have BK117 := n0_; have BK133 := n1_; have BK149 := n2_; have HB := n3_; clear n0_ n1_ n2_ n3_; (try clear hb); (try clear hb2); (try clear hk); (try clear hi)))
            go_meet
            case rel => exact ⟨_, (true), (by first | rfl | (simp; done) | (simp [*]; done)), H', ⟨by have := HJ6.out; first | omega | exact Nat.le_refl _⟩, ⟨by (with_reducible repeat (first | apply bkD | apply bkd | apply bkA)); exact BK117.out⟩, ⟨by (with_reducible repeat (first | apply bkD | apply bkd | apply bkA)); exact BK133.out⟩, ⟨by (with_reducible repeat (first | apply bkD | apply bkd | apply bkA)); exact BK149.out⟩, ⟨bq HB⟩⟩
          exact ax1
        case rest =>
          focus
            clear HC33
            try clear c1
            try clear c2
            try clear p2
            try clear c3
            try clear c4
            try clear c5
            try clear c6
            try clear c12
            try clear c13
            try clear c18
            try clear c19
            try clear c21
            try clear c21b0
            try clear c22
            try clear c23
            try clear c25
            try clear c26
            try clear c27
            try clear c28
            try clear c29
            try clear c30
            try clear c32
            try clear c35
            try clear c36
            try clear c36b0
            try clear c36b1
            try clear c37
            try clear c37b0
            try clear c37b1
            try clear c38
            try clear c39
            try clear c43
            try clear c43b0
            try clear c44
            try clear c45
            try clear c49
            try clear c50
            try clear c54
            try clear c55
            try clear c59
            try clear c60
            try clear hfz10_0
            try clear hfz14_0
            try clear hfz15_0
            try clear hfz20_0
            try clear hfz24_0
            try clear hfz26_0
            try clear hfz29_0
            try clear hfz31_0
            try clear hfz40_0
            try clear hfz42_0
            try clear hfz46_0
            try clear hfz48_0
            try clear hfz51_0
            try clear hfz53_0
            try clear hfz56_0
            try clear hfz58_0
            try clear hfz61_0
            try clear p2
            obtain ⟨kq, x60_32, rfl, HA, HJ32, BK117, BK133, BK149, HB⟩ := hcut
            cases kq with
            | zero => exact absurd HA.out (by simp [laws_FnFixedTurns.j1])
            | succ kj32 =>
              have H := HA.out
              clear HA
              simp only [laws_FnFixedTurns.j1] at H
              by_cases c63 : x60_32 = true
              · subst c63
                have H1 : (if t132 = true then (some false) else (if (t118 == t102 && (t119 == t103 && (t120 == t104 && (t121 == t105 && (t122 == t106 && (t123 == t107 && (t124 == t108 && (t125 == t109 && (t126 == t110 && (t127 == t111 && (t128 == t112 && (t129 == t113 && (t130 == t114 && (t131 == t115)))))))))))))) = true then (some true) else ((spec_TaskOk.f t102 t103 t104 t105 t106 t107 t108 t109 t110 t111 t112 t113 t114 t115).bind fun t151 => (if t151 = true then (some (decide (t109 > 1))) else (some false))))) = some r := by rw [if_pos rfl] at H; exact H
                clear H
                have H := H1
                clear H1
                by_cases c64 : t132 = true
                · subst c64
                  have H1 : (some false) = some r := by rw [if_pos rfl] at H; exact H
                  clear H
                  have H := H1
                  clear H1
                  exact absurd ((Option.some.inj H).trans HRT.out) Bool.false_ne_true
                replace c64 := Bool.eq_false_iff.mpr c64
                subst c64
                have H1 : (if (t118 == t102 && (t119 == t103 && (t120 == t104 && (t121 == t105 && (t122 == t106 && (t123 == t107 && (t124 == t108 && (t125 == t109 && (t126 == t110 && (t127 == t111 && (t128 == t112 && (t129 == t113 && (t130 == t114 && (t131 == t115)))))))))))))) = true then (some true) else ((spec_TaskOk.f t102 t103 t104 t105 t106 t107 t108 t109 t110 t111 t112 t113 t114 t115).bind fun t151 => (if t151 = true then (some (decide (t109 > 1))) else (some false)))) = some r := by rw [if_neg (show ¬ (false = true) by decide)] at H; exact H
                clear H
                have H := H1
                clear H1
                by_cases c65 : (t118 == t102 && (t119 == t103 && (t120 == t104 && (t121 == t105 && (t122 == t106 && (t123 == t107 && (t124 == t108 && (t125 == t109 && (t126 == t110 && (t127 == t111 && (t128 == t112 && (t129 == t113 && (t130 == t114 && (t131 == t115)))))))))))))) = true
                · refine @id ?T5 ?_
                  let rec ax5 : ?T5 := by
                    clear ax5
                    rw [if_pos c65] at H
                    have c65b0 : (t118 == t102 && (t119 == t103 && (t120 == t104 && (t121 == t105 && (t122 == t106 && (t123 == t107 && (t124 == t108 && (t125 == t109 && (t126 == t110 && (t127 == t111 && (t128 == t112 && (t129 == t113 && (t130 == t114 && (t131 == t115)))))))))))))) = true := c65
                    (try (have c65b1 : decide (t118 = t102 && (t119 == t103 && (t120 == t104 && (t121 == t105 && (t122 == t106 && (t123 == t107 && (t124 == t108 && (t125 == t109 && (t126 == t110 && (t127 == t111 && (t128 == t112 && (t129 == t113 && (t130 == t114 && (t131 == t115)))))))))))))) = true := by simpa using c65))
                    (try (have c65b2 : (t118 == t102 && (t119 == t103 && (t120 == t104 && (t121 == t105 && (t122 == t106 && (t123 == t107 && (t124 == t108 && (t125 == t109 && (t126 == t110 && (t127 == t111 && (t128 == t112 && (t129 == t113 && (t130 == t114 && (t131 == t115)))))))))))))) = true := by simpa using c65))
                    clear c65
                    obtain rfl := Option.some.inj H
                    have hnb66 := NB133_117.out
                    have hnc66 := NB117_133.out
                    have hnb67 := NB133_149.out
                    have hnc67 := NB149_133.out
                    obtain ⟨_,_,_,_,_,_,_,_,_,_,_,_,_,_⟩ := cz14 BK133.out
                    have hfz68_0 := blk_frozen BK133.out
                    have hnb69 := NB117_149.out
                    have hnc69 := NB149_117.out
                    obtain ⟨_,_,_,_,_,_,_,_,_,_,_,_,_,_⟩ := cz14 BK117.out
                    have hfz70_0 := blk_frozen BK117.out
                    go_wp2
                    all_goals go_ret
                    all_goals exact ⟨by first | rfl | (simp <;> rfl) | (simp [*] <;> rfl), bq HB⟩
                  exact ax5
                rw [if_neg c65] at H
                have c65b0 : (t118 == t102 && (t119 == t103 && (t120 == t104 && (t121 == t105 && (t122 == t106 && (t123 == t107 && (t124 == t108 && (t125 == t109 && (t126 == t110 && (t127 == t111 && (t128 == t112 && (t129 == t113 && (t130 == t114 && (t131 == t115)))))))))))))) = false := by simpa using c65
                (try (have c65b1 : decide (t118 = t102 && (t119 == t103 && (t120 == t104 && (t121 == t105 && (t122 == t106 && (t123 == t107 && (t124 == t108 && (t125 == t109 && (t126 == t110 && (t127 == t111 && (t128 == t112 && (t129 == t113 && (t130 == t114 && (t131 == t115)))))))))))))) = false := by simpa using c65))
                (try (have c65b2 : (t118 == t102 && (t119 == t103 && (t120 == t104 && (t121 == t105 && (t122 == t106 && (t123 == t107 && (t124 == t108 && (t125 == t109 && (t126 == t110 && (t127 == t111 && (t128 == t112 && (t129 == t113 && (t130 == t114 && (t131 == t115)))))))))))))) = false := by simpa using c65))
                (try (have c65b3 : ¬ (t118 = t102 && (t119 == t103 && (t120 == t104 && (t121 == t105 && (t122 == t106 && (t123 == t107 && (t124 == t108 && (t125 == t109 && (t126 == t110 && (t127 == t111 && (t128 == t112 && (t129 == t113 && (t130 == t114 && (t131 == t115)))))))))))))) := by simpa using c65))
                clear c65
                replace H := Option.bind_eq_some_iff.mp H
                obtain ⟨t151, A710, H⟩ := H
                replace H : (if t151 = true then (some (decide (t109 > 1))) else (some false)) = some r := H
                have A71 := Aside0.mk A710
                clear A710
                by_cases c72 : t151 = true
                · subst c72
                  have H1 : (some (decide (t109 > 1))) = some r := by rw [if_pos rfl] at H; exact H
                  clear H
                  have H := H1
                  clear H1
                  obtain rfl := Option.some.inj H
                  have hnb73 := NB133_117.out
                  have hnc73 := NB117_133.out
                  have hnb74 := NB133_149.out
                  have hnc74 := NB149_133.out
                  obtain ⟨_,_,_,_,_,_,_,_,_,_,_,_,_,_⟩ := cz14 BK133.out
                  have hfz75_0 := blk_frozen BK133.out
                  have hnb76 := NB117_149.out
                  have hnc76 := NB149_117.out
                  obtain ⟨_,_,_,_,_,_,_,_,_,_,_,_,_,_⟩ := cz14 BK117.out
                  have hfz77_0 := blk_frozen BK117.out
                  go_wp2_with (first | (go_at_call 26; (with_reducible refine (spec_TaskOk.calls t102 t103 t104 t105 t106 t107 t108 t109 t110 t111 t112 t113 t114 t115 true _ A71.out).mono ?_); rintro e w78 ⟨rfl, hb⟩; have n0_ := aM (blk_below (kq BK117) hb); have n1_ := aM (blk_below (kq BK133) hb); have n2_ := aM (blk_below (kq BK149) hb); have n3_ := aM (below_step (bq HB) hb); clear BK117 BK133 BK149 HB; have BK117 := n0_; have BK133 := n1_; have BK149 := n2_; have HB := n3_; clear n0_ n1_ n2_ n3_; (try clear hb); (try clear hb2); (try clear hk); (try clear hi); obtain ⟨_,_,_,_,_,_,_,_,_,_,_,_,_,_⟩ := cz14 BK117.out; have hfz79_0 := blk_frozen BK117.out))
                  all_goals go_ret
                  all_goals exact ⟨by first | rfl | (simp <;> rfl) | (simp [*] <;> rfl), bq HB⟩
                replace c72 := Bool.eq_false_iff.mpr c72
                subst c72
                have H1 : (some false) = some r := by rw [if_neg (show ¬ (false = true) by decide)] at H; exact H
                clear H
                have H := H1
                clear H1
                exact absurd ((Option.some.inj H).trans HRT.out) Bool.false_ne_true
              replace c63 := Bool.eq_false_iff.mpr c63
              subst c63
              have H1 : (laws_FnFixedTurns.l0 kj32 t116 0 0 t102 t103 t104 t105 t106 t107 t108 t109 t110 t111 t112 t113 t114 t115) = some r := by rw [if_neg (show ¬ (false = true) by decide)] at H; exact H
              clear H
              have H := H1
              clear H1
              have H' := Aside0.mk H
              clear H
              go_wp2
              go_loopg [9, 10] kj32 (fun kq v9 v10 w' => ∃ (x9_3 : Int) (x10_3 : Int) (x118000_3 : Int) (x118001_3 : Int) (x118002_3 : Int) (x118003_3 : Int) (x118004_3 : Bool) (x118005_3 : Int) (x118006_3 : Int) (x118007_3 : Int) (x118008_3 : Int) (x118009_3 : Int) (x118010_3 : Int) (x118011_3 : Int) (x118012_3 : Int) (x118013_3 : Int), v9 = .int .i64 x9_3 ∧ v10 = .int .i64 x10_3 ∧ Aside0 (laws_FnFixedTurns.l0 kq t116 x9_3 x10_3 x118000_3 x118001_3 x118002_3 x118003_3 x118004_3 x118005_3 x118006_3 x118007_3 x118008_3 x118009_3 x118010_3 x118011_3 x118012_3 x118013_3 = some r) ∧ Aside0 (kq ≤ kj32) ∧ Aside0 (w'.heap[gb117]? = some (.cells #[.int .i64 x118000_3, .int .i64 x118001_3, .int .i64 x118002_3, .int .i64 x118003_3, .bool x118004_3, .int .i64 x118005_3, .int .i64 x118006_3, .int .i64 x118007_3, .int .i64 x118008_3, .int .i64 x118009_3, .int .i64 x118010_3, .int .i64 x118011_3, .int .i64 x118012_3, .int .i64 x118013_3] 27 (0, 0))) ∧ Aside0 (w'.heap[gb133]? = some (.cells #[.int .i64 t118, .int .i64 t119, .int .i64 t120, .int .i64 t121, .bool t122, .int .i64 t123, .int .i64 t124, .int .i64 t125, .int .i64 t126, .int .i64 t127, .int .i64 t128, .int .i64 t129, .int .i64 t130, .int .i64 t131] 27 (0, 0))) ∧ Aside0 (w'.heap[gb149]? = some (.cells #[.int .i64 t134, .int .i64 t135, .int .i64 t136, .int .i64 t137, .bool t138, .int .i64 t139, .int .i64 t140, .int .i64 t141, .int .i64 t142, .int .i64 t143, .int .i64 t144, .int .i64 t145, .int .i64 t146, .int .i64 t147] 27 (0, 0))) ∧ Aside0 (Below w.heap.size w w'))
              case atStart => exact ⟨(0), (0), (t102), (t103), (t104), (t105), (t106), (t107), (t108), (t109), (t110), (t111), (t112), (t113), (t114), (t115), (by first | rfl | (simp; done) | (simp [*]; done)), (by first | rfl | (simp; done) | (simp [*]; done)), H', ⟨Nat.le_refl _⟩, ⟨by (with_reducible repeat (first | apply bkD | apply bkd | apply bkA)); exact BK117.out⟩, ⟨by (with_reducible repeat (first | apply bkD | apply bkd | apply bkA)); exact BK133.out⟩, ⟨by (with_reducible repeat (first | apply bkD | apply bkd | apply bkA)); exact BK149.out⟩, ⟨bq HB⟩⟩
              case round =>
                clear H'
                try clear p2
                try clear c6
                try clear c7
                try clear c63
                try clear c64
                try clear c65
                try clear c65b0
                try clear c65b1
                try clear c65b2
                try clear c66
                try clear c67
                try clear c69
                try clear c72
                try clear c73
                try clear c74
                try clear c76
                try clear hfz10_0
                try clear hfz14_0
                try clear hfz15_0
                try clear hfz20_0
                try clear hfz24_0
                try clear hfz26_0
                try clear hfz29_0
                try clear hfz31_0
                try clear hfz40_0
                try clear hfz42_0
                try clear hfz46_0
                try clear hfz48_0
                try clear hfz51_0
                try clear hfz53_0
                try clear hfz56_0
                try clear hfz58_0
                try clear hfz61_0
                try clear hfz68_0
                try clear hfz70_0
                try clear hfz75_0
                try clear hfz77_0
                try clear hfz79_0
                try clear p2
                obtain ⟨x9_3, x10_3, x118000_3, x118001_3, x118002_3, x118003_3, x118004_3, x118005_3, x118006_3, x118007_3, x118008_3, x118009_3, x118010_3, x118011_3, x118012_3, x118013_3, rfl, rfl, HA, HK3, BK117, BK133, BK149, HB⟩ := hrel
                cases gk with
                | zero => exact absurd HA.out (by simp [laws_FnFixedTurns.l0])
                | succ k3 =>
                  have H := HA.out
                  clear HA
                  simp only [laws_FnFixedTurns.l0] at H
                  by_cases c80 : x10_3 < x118010_3
                  · focus
                      rw [if_pos c80] at H
                      have c80b0 : decide (x10_3 < x118010_3) = true := decide_eq_true c80
                      clear c80
                      replace H := Option.bind_eq_some_iff.mp H
                      obtain ⟨⟨t152, t153, t154, t155, t156, t157, t158, t159, t160, t161, t162, t163, t164, t165, t166⟩, A810, H⟩ := H
                      replace H : (if t166 = true then (laws_FnFixedTurns.l0 k3 t116 (wrap64 (x9_3 + 1)) (wrap64 (x10_3 + 1)) t152 t153 t154 t155 t156 t157 t158 t159 t160 t161 t162 t163 t164 t165) else (laws_FnFixedTurns.l0 k3 t116 x9_3 (wrap64 (x10_3 + 1)) t152 t153 t154 t155 t156 t157 t158 t159 t160 t161 t162 t163 t164 t165)) = some r := H
                      have A81 := Aside0.mk A810
                      clear A810
                      by_cases c82 : t166 = true
                      · subst c82
                        have H1 : (laws_FnFixedTurns.l0 k3 t116 (wrap64 (x9_3 + 1)) (wrap64 (x10_3 + 1)) t152 t153 t154 t155 t156 t157 t158 t159 t160 t161 t162 t163 t164 t165) = some r := by rw [if_pos rfl] at H; exact H
                        clear H
                        have H := H1
                        clear H1
                        have H' := Aside0.mk H
                        clear H
                        have hnb83 := NB117_133.out
                        have hnc83 := NB133_117.out
                        have hnb84 := NB117_149.out
                        have hnc84 := NB149_117.out
                        obtain ⟨_,_,_,_,_,_,_,_,_,_,_,_,_,_⟩ := cz14 BK117.out
                        have hfz85_0 := blk_frozen BK117.out
                        go_wp2_with (first | ((with_reducible refine gate_callee (f := 28) rfl ?_); refine gL (some 86) Try.func28 #[.agg #[.int .i64 x118000_3, .int .i64 x118001_3, .int .i64 x118002_3, .int .i64 x118003_3, .bool x118004_3, .int .i64 x118005_3, .int .i64 x118006_3, .int .i64 x118007_3, .int .i64 x118008_3, .int .i64 x118009_3, .int .i64 x118010_3, .int .i64 x118011_3, .int .i64 x118012_3, .int .i64 x118013_3], .int .i64 t116] ?_; (with_reducible refine (impl_FixedSpend.calls k3 x118000_3 x118001_3 x118002_3 x118003_3 x118004_3 x118005_3 x118006_3 x118007_3 x118008_3 x118009_3 x118010_3 x118011_3 x118012_3 x118013_3 t116 t152 t153 t154 t155 t156 t157 t158 t159 t160 t161 t162 t163 t164 t165 true _ A81.out).mono ?_); rintro e w86 ⟨rfl, hb⟩; refine ⟨_, rfl, ?_⟩; have n0_ := aM (blk_below (kq BK117) hb); have n1_ := aM (blk_below (kq BK133) hb); have n2_ := aM (blk_below (kq BK149) hb); have n3_ := aM (below_step (bq HB) hb); clear BK117 BK133 BK149 HB; have BK117 := n0_; have BK133 := n1_; have BK149 := n2_; have HB := n3_; clear n0_ n1_ n2_ n3_; (try clear hb); (try clear hb2); (try clear hk); (try clear hi)) | ((with_reducible refine gate_dst (N := 11) rfl ?_); refine box_event ?hg (N := 11) ?hd (cs := tk14 0 0 0 0 false 0 0 0 0 0 0 0 0 0) (t := 27) ?hr ?_; (case hd => rfl); (case hg => rfl); (case hr => first | (go_simp; done) | (go_simp; rfl)); intro gb167 hg w87 hbox hb; have n0_ := aM (blk_below (kq BK117) hb); have n1_ := aM (blk_below (kq BK133) hb); have n2_ := aM (blk_below (kq BK149) hb); have n3_ := aM (below_step (bq HB) hb); have n4_ := aM (hbox); have n5_ := aM ((by rw [hg]; exact (below_size (bq HB)) : w.heap.size ≤ gb167)); have n6_ := n5_; have n7_ := aM ((by rw [hg]; exact Nat.ne_of_lt (blk_lt (kq BK117)) : gb117 ≠ gb167)); have n8_ := aM (n7_.out.symm); have n9_ := aM ((by rw [hg]; exact Nat.ne_of_lt (blk_lt (kq BK133)) : gb133 ≠ gb167)); have n10_ := aM (n9_.out.symm); have n11_ := aM ((by rw [hg]; exact Nat.ne_of_lt (blk_lt (kq BK149)) : gb149 ≠ gb167)); have n12_ := aM (n11_.out.symm); clear BK117 BK133 BK149 HB; have BK117 := n0_; have BK133 := n1_; have BK149 := n2_; have HB := n3_; have BK167 := n4_; have GW167 := n5_; have GE167 := n6_; have NB117_167 := n7_; have NB167_117 := n8_; have NB133_167 := n9_; have NB167_133 := n10_; have NB149_167 := n11_; have NB167_149 := n12_; clear n0_ n1_ n2_ n3_ n4_ n5_ n6_ n7_ n8_ n9_ n10_ n11_ n12_; clear hb hbox hg; have hnb88 := NB167_117.out; have hnc88 := NB117_167.out; have hnb89 := NB167_133.out; have hnc89 := NB133_167.out; have hnb90 := NB167_149.out; have hnc90 := NB149_167.out; obtain ⟨_,_,_,_,_,_,_,_,_,_,_,_,_,_⟩ := cz14 BK167.out; have hfz91_0 := blk_frozen BK167.out; obtain ⟨_,_,_,_,_,_,_,_,_,_,_,_,_,_⟩ := cz14 BK117.out; have hfz92_0 := blk_frozen BK117.out))
                        go_roundg k3
                        case measure => have := HJ6.out; have := HJ32.out; have := HK3.out; omega
                        case rel => exact ⟨(wrap64 (x9_3 + 1)), (wrap64 (x10_3 + 1)), (t152), (t153), (t154), (t155), (t156), (t157), (t158), (t159), (t160), (t161), (t162), (t163), (t164), (t165), (by first | rfl | (simp; done) | (simp [*]; done)), (by first | rfl | (simp; done) | (simp [*]; done)), H', ⟨by have := HJ6.out; have := HJ32.out; have := HK3.out; omega⟩, ⟨by refine put14 (cs := tk14 x118000_3 x118001_3 x118002_3 x118003_3 x118004_3 x118005_3 x118006_3 x118007_3 x118008_3 x118009_3 x118010_3 x118011_3 x118012_3 x118013_3) ?_; refine far14 ?_ NB117_167.out; (with_reducible repeat (first | apply bkD | apply bkd | apply bkA)); exact BK117.out⟩, ⟨by refine far14 ?_ NB133_117.out; refine far14 ?_ NB133_167.out; (with_reducible repeat (first | apply bkD | apply bkd | apply bkA)); exact BK133.out⟩, ⟨by refine far14 ?_ NB149_117.out; refine far14 ?_ NB149_167.out; (with_reducible repeat (first | apply bkD | apply bkd | apply bkA)); exact BK149.out⟩, ⟨bq HB⟩⟩
                      replace c82 := Bool.eq_false_iff.mpr c82
                      subst c82
                      have H1 : (laws_FnFixedTurns.l0 k3 t116 x9_3 (wrap64 (x10_3 + 1)) t152 t153 t154 t155 t156 t157 t158 t159 t160 t161 t162 t163 t164 t165) = some r := by rw [if_neg (show ¬ (false = true) by decide)] at H; exact H
                      clear H
                      have H := H1
                      clear H1
                      have H' := Aside0.mk H
                      clear H
                      have hnb93 := NB117_133.out
                      have hnc93 := NB133_117.out
                      have hnb94 := NB117_149.out
                      have hnc94 := NB149_117.out
                      obtain ⟨_,_,_,_,_,_,_,_,_,_,_,_,_,_⟩ := cz14 BK117.out
                      have hfz95_0 := blk_frozen BK117.out
                      go_wp2_with (first | ((with_reducible refine gate_callee (f := 28) rfl ?_); refine gL (some 86) Try.func28 #[.agg #[.int .i64 x118000_3, .int .i64 x118001_3, .int .i64 x118002_3, .int .i64 x118003_3, .bool x118004_3, .int .i64 x118005_3, .int .i64 x118006_3, .int .i64 x118007_3, .int .i64 x118008_3, .int .i64 x118009_3, .int .i64 x118010_3, .int .i64 x118011_3, .int .i64 x118012_3, .int .i64 x118013_3], .int .i64 t116] ?_; (with_reducible refine (impl_FixedSpend.calls k3 x118000_3 x118001_3 x118002_3 x118003_3 x118004_3 x118005_3 x118006_3 x118007_3 x118008_3 x118009_3 x118010_3 x118011_3 x118012_3 x118013_3 t116 t152 t153 t154 t155 t156 t157 t158 t159 t160 t161 t162 t163 t164 t165 false _ A81.out).mono ?_); rintro e w96 ⟨rfl, hb⟩; refine ⟨_, rfl, ?_⟩; have n0_ := aM (blk_below (kq BK117) hb); have n1_ := aM (blk_below (kq BK133) hb); have n2_ := aM (blk_below (kq BK149) hb); have n3_ := aM (below_step (bq HB) hb); clear BK117 BK133 BK149 HB; have BK117 := n0_; have BK133 := n1_; have BK149 := n2_; have HB := n3_; clear n0_ n1_ n2_ n3_; (try clear hb); (try clear hb2); (try clear hk); (try clear hi)) | ((with_reducible refine gate_dst (N := 11) rfl ?_); refine box_event ?hg (N := 11) ?hd (cs := tk14 0 0 0 0 false 0 0 0 0 0 0 0 0 0) (t := 27) ?hr ?_; (case hd => rfl); (case hg => rfl); (case hr => first | (go_simp; done) | (go_simp; rfl)); intro gb167 hg w97 hbox hb; have n0_ := aM (blk_below (kq BK117) hb); have n1_ := aM (blk_below (kq BK133) hb); have n2_ := aM (blk_below (kq BK149) hb); have n3_ := aM (below_step (bq HB) hb); have n4_ := aM (hbox); have n5_ := aM ((by rw [hg]; exact (below_size (bq HB)) : w.heap.size ≤ gb167)); have n6_ := n5_; have n7_ := aM ((by rw [hg]; exact Nat.ne_of_lt (blk_lt (kq BK117)) : gb117 ≠ gb167)); have n8_ := aM (n7_.out.symm); have n9_ := aM ((by rw [hg]; exact Nat.ne_of_lt (blk_lt (kq BK133)) : gb133 ≠ gb167)); have n10_ := aM (n9_.out.symm); have n11_ := aM ((by rw [hg]; exact Nat.ne_of_lt (blk_lt (kq BK149)) : gb149 ≠ gb167)); have n12_ := aM (n11_.out.symm); clear BK117 BK133 BK149 HB; have BK117 := n0_; have BK133 := n1_; have BK149 := n2_; have HB := n3_; have BK167 := n4_; have GW167 := n5_; have GE167 := n6_; have NB117_167 := n7_; have NB167_117 := n8_; have NB133_167 := n9_; have NB167_133 := n10_; have NB149_167 := n11_; have NB167_149 := n12_; clear n0_ n1_ n2_ n3_ n4_ n5_ n6_ n7_ n8_ n9_ n10_ n11_ n12_; clear hb hbox hg; have hnb98 := NB167_117.out; have hnc98 := NB117_167.out; have hnb99 := NB167_133.out; have hnc99 := NB133_167.out; have hnb100 := NB167_149.out; have hnc100 := NB149_167.out; obtain ⟨_,_,_,_,_,_,_,_,_,_,_,_,_,_⟩ := cz14 BK167.out; have hfz101_0 := blk_frozen BK167.out; obtain ⟨_,_,_,_,_,_,_,_,_,_,_,_,_,_⟩ := cz14 BK117.out; have hfz102_0 := blk_frozen BK117.out))
                      go_roundg k3
                      case measure => have := HJ6.out; have := HJ32.out; have := HK3.out; omega
                      case rel => exact ⟨(x9_3), (wrap64 (x10_3 + 1)), (t152), (t153), (t154), (t155), (t156), (t157), (t158), (t159), (t160), (t161), (t162), (t163), (t164), (t165), (by first | rfl | (simp; done) | (simp [*]; done)), (by first | rfl | (simp; done) | (simp [*]; done)), H', ⟨by have := HJ6.out; have := HJ32.out; have := HK3.out; omega⟩, ⟨by refine put14 (cs := tk14 x118000_3 x118001_3 x118002_3 x118003_3 x118004_3 x118005_3 x118006_3 x118007_3 x118008_3 x118009_3 x118010_3 x118011_3 x118012_3 x118013_3) ?_; refine far14 ?_ NB117_167.out; (with_reducible repeat (first | apply bkD | apply bkd | apply bkA)); exact BK117.out⟩, ⟨by refine far14 ?_ NB133_117.out; refine far14 ?_ NB133_167.out; (with_reducible repeat (first | apply bkD | apply bkd | apply bkA)); exact BK133.out⟩, ⟨by refine far14 ?_ NB149_117.out; refine far14 ?_ NB149_167.out; (with_reducible repeat (first | apply bkD | apply bkd | apply bkA)); exact BK149.out⟩, ⟨bq HB⟩⟩
                  rw [if_neg c80] at H
                  have c80b0 : decide (x10_3 < x118010_3) = false := decide_eq_false c80
                  clear c80
                  by_cases c103 : x9_3 = 1
                  · refine @id ?T6 ?_
                    let rec ax6 : ?T6 := by
                      clear ax6
                      rw [if_pos c103] at H
                      have c103b0 : (x9_3 == 1) = true := beq_iff_eq.mpr c103
                      have c103b1 : (x9_3 != 1) = false := bne_eq_false_iff_eq.mpr c103
                      clear c103
                      by_cases c104 : x118011_3 = t116
                      · refine @id ?T7 ?_
                        let rec ax7 : ?T7 := by
                          clear ax7
                          rw [if_pos c104] at H
                          have c104b0 : (x118011_3 == t116) = true := beq_iff_eq.mpr c104
                          have c104b1 : (x118011_3 != t116) = false := bne_eq_false_iff_eq.mpr c104
                          clear c104
                          replace H := Option.bind_eq_some_iff.mp H
                          obtain ⟨t168, A1050, H⟩ := H
                          replace H : (some t168) = some r := H
                          have A105 := Aside0.mk A1050
                          clear A1050
                          obtain rfl := Option.some.inj H
                          have hnb106 := NB117_133.out
                          have hnc106 := NB133_117.out
                          have hnb107 := NB117_149.out
                          have hnc107 := NB149_117.out
                          obtain ⟨_,_,_,_,_,_,_,_,_,_,_,_,_,_⟩ := cz14 BK117.out
                          have hfz108_0 := blk_frozen BK117.out
                          go_wp2_with (first | (go_at_call 22; (with_reducible refine (impl_TaskOk.calls x118000_3 x118001_3 x118002_3 x118003_3 x118004_3 x118005_3 x118006_3 x118007_3 x118008_3 x118009_3 x118010_3 x118011_3 x118012_3 x118013_3 t168 _ A105.out).mono ?_); rintro e w109 ⟨rfl, hb⟩; have n0_ := aM (blk_below (kq BK117) hb); have n1_ := aM (blk_below (kq BK133) hb); have n2_ := aM (blk_below (kq BK149) hb); have n3_ := aM (below_step (bq HB) hb); clear BK117 BK133 BK149 HB; have BK117 := n0_; have BK133 := n1_; have BK149 := n2_; have HB := n3_; clear n0_ n1_ n2_ n3_; (try clear hb); (try clear hb2); (try clear hk); (try clear hi)))
                          all_goals go_ret
                          all_goals exact ⟨by first | rfl | (simp <;> rfl) | (simp [*] <;> rfl), bq HB⟩
                        exact ax7
                      rw [if_neg c104] at H
                      have c104b0 : (x118011_3 == t116) = false := beq_eq_false_iff_ne.mpr c104
                      have c104b1 : (x118011_3 != t116) = true := bne_iff_ne.mpr c104
                      exact absurd ((Option.some.inj H).trans HRT.out) Bool.false_ne_true
                    exact ax6
                  rw [if_neg c103] at H
                  have c103b0 : (x9_3 == 1) = false := beq_eq_false_iff_ne.mpr c103
                  have c103b1 : (x9_3 != 1) = true := bne_iff_ne.mpr c103
                  exact absurd ((Option.some.inj H).trans HRT.out) Bool.false_ne_true

/-- THE ONE PURE STATEMENT of laws_FnFixedTurns: yours. -/
def laws_FnFixedTurns.Pure : Prop := ∀ (l0 : List Int), l0.length ≤ maxLen → l0.length * 1 ≤ 140737488351232 → (∀ x ∈ l0, (Lit.int .u8 x).wf = true) → ∃ k, laws_FnFixedTurns.f k l0 = some true
theorem laws_FnFixedTurns.walk (P : laws_FnFixedTurns.Pure) (a0 : Option Addr) (len0 cap0 : Nat) (z0 : List Int) (w : World) (w0 : (a0 = none ∧ len0 = 0 ∧ cap0 = 0 ∧ z0 = []) ∨ ∃ x, a0 = some x ∧ len0 ≤ cap0 ∧ cap0 ≤ maxLen ∧ z0.length = cap0 ∧ (∀ i, i < z0.length → w.cell? (x.add i) = some (.int .u8 (z0.getD i 0))) ∧ ∀ n ∈ z0, (Lit.int .u8 n).wf = true) (y0 : len0 * 1 ≤ 140737488351232) :
    Calls Try.prog 5 #[.slice a0 len0 cap0] w fun e w' => e = .returned (.bool true) ∧ Below w.heap.size w w' := by
  obtain ⟨l0, rfl, hr0, hm0, hw0, hc0⟩ := ReadsInt.ofRowC w0
  obtain ⟨k, h⟩ := P l0 hm0 y0 hw0
  refine (laws_FnFixedTurns.calls k _ _ l0 true w (Kd.C_of_reads (d := (0 : Int)) (h1 := fun _ => rfl) hr0) hc0 rfl h).mono ?_
  rintro e w' ⟨rfl, hd⟩
  exact ⟨rfl, hd⟩

end Go.Proofs.Ytphkgmdbdnjmbaa.Print
