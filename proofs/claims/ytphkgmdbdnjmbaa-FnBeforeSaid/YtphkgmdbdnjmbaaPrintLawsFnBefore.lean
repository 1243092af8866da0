/- Go functions as plain Lean functions, and that the Go code answers just as these, wherever they answer. Conditions: those of each theorem. Written by a program of this session (wip/patch.py). -/
import Derived.Test.YtphkgmdbdnjmbaaPrint0
import Derived.Test.YtphkgmdbdnjmbaaPrintImplBefore
import Derived.Test.YtphkgmdbdnjmbaaPrintImplFairBefore
import Derived.Test.YtphkgmdbdnjmbaaPrintLawsBig
import Derived.Test.YtphkgmdbdnjmbaaPrintSpecBefore
import Derived.Test.YtphkgmdbdnjmbaaPrintSpecDrawBefore
import Derived.Test.YtphkgmdbdnjmbaaPrintSpecDrawFairBefore
import Derived.Test.YtphkgmdbdnjmbaaPrintSpecFairBefore
import Derived.Test.YtphkgmdbdnjmbaaPrintSpecTaskOk0
namespace Go.Proofs.Ytphkgmdbdnjmbaa.Print
open Go.RowKit Go.Proofs.Ytphkgmdbdnjmbaa.Base Go.Proofs.YtphkgmdbdnjmbaaW.PrintWords Go.Proofs.YtphkgmdbdnjmbaaW.PrintLast Go.Proofs.YtphkgmdbdnjmbaaW.PrintMore
attribute [local go_sem] max2_int min2_int max_two min_two max_three min_three max_four min_four   -- for this text's walks alone
set_option linter.unusedVariables false
set_option linter.unusedSimpArgs false

/-! ### laws_FnBefore: function 6 -/
mutual
def laws_FnBefore.j0 : Nat → List Int → Bool → Bool → Int → Int → Int → Int → Bool → Int → Int → Int → Int → Int → Int → Int → Int → Int → Int → Int → Int → Int → Bool → Int → Int → Int → Int → Int → Int → Int → Int → Int → Option (Bool)
  | 0, _, _, _, _, _, _, _, _, _, _, _, _, _, _, _, _, _, _, _, _, _, _, _, _, _, _, _, _, _, _, _ => none
  | k + 1, x0, x5, x6, x131000, x131001, x131002, x131003, x131004, x131005, x131006, x131007, x131008, x131009, x131010, x131011, x131012, x131013, x132000, x132001, x132002, x132003, x132004, x132005, x132006, x132007, x132008, x132009, x132010, x132011, x132012, x132013 => (spec_Before.f k x131000 x131001 x131002 x131003 x131004 x131005 x131006 x131007 x131008 x131009 x131010 x131011 x131012 x131013 x132000 x132001 x132002 x132003 x132004 x132005 x132006 x132007 x132008 x132009 x132010 x132011 x132012 x132013).bind fun t134 => (if (x5 != t134) = true then (laws_FnBefore.j1 k x0 x5 x6 true x131000 x131001 x131002 x131003 x131004 x131005 x131006 x131007 x131008 x131009 x131010 x131011 x131012 x131013 x132000 x132001 x132002 x132003 x132004 x132005 x132006 x132007 x132008 x132009 x132010 x132011 x132012 x132013) else (if x5 = true then (if x6 = true then (laws_FnBefore.j1 k x0 x5 x6 true x131000 x131001 x131002 x131003 x131004 x131005 x131006 x131007 x131008 x131009 x131010 x131011 x131012 x131013 x132000 x132001 x132002 x132003 x132004 x132005 x132006 x132007 x132008 x132009 x132010 x132011 x132012 x132013) else ((impl_Before.f k x131000 x131001 x131002 x131003 x131004 x131005 x131006 x131007 x131008 x131009 x131010 x131011 x131012 x131013 x131000 x131001 x131002 x131003 x131004 x131005 x131006 x131007 x131008 x131009 x131010 x131011 x131012 x131013).bind fun t135 => (laws_FnBefore.j1 k x0 x5 x6 t135 x131000 x131001 x131002 x131003 x131004 x131005 x131006 x131007 x131008 x131009 x131010 x131011 x131012 x131013 x132000 x132001 x132002 x132003 x132004 x132005 x132006 x132007 x132008 x132009 x132010 x132011 x132012 x132013))) else ((impl_Before.f k x131000 x131001 x131002 x131003 x131004 x131005 x131006 x131007 x131008 x131009 x131010 x131011 x131012 x131013 x131000 x131001 x131002 x131003 x131004 x131005 x131006 x131007 x131008 x131009 x131010 x131011 x131012 x131013).bind fun t136 => (laws_FnBefore.j1 k x0 x5 x6 t136 x131000 x131001 x131002 x131003 x131004 x131005 x131006 x131007 x131008 x131009 x131010 x131011 x131012 x131013 x132000 x132001 x132002 x132003 x132004 x132005 x132006 x132007 x132008 x132009 x132010 x132011 x132012 x132013))))
def laws_FnBefore.j1 : Nat → List Int → Bool → Bool → Bool → Int → Int → Int → Int → Bool → Int → Int → Int → Int → Int → Int → Int → Int → Int → Int → Int → Int → Int → Bool → Int → Int → Int → Int → Int → Int → Int → Int → Int → Option (Bool)
  | 0, _, _, _, _, _, _, _, _, _, _, _, _, _, _, _, _, _, _, _, _, _, _, _, _, _, _, _, _, _, _, _, _ => none
  | k + 1, x0, x5, x6, x37, x131000, x131001, x131002, x131003, x131004, x131005, x131006, x131007, x131008, x131009, x131010, x131011, x131012, x131013, x132000, x132001, x132002, x132003, x132004, x132005, x132006, x132007, x132008, x132009, x132010, x132011, x132012, x132013 => if x37 = true then (some false) else ((spec_TaskOk.f x131000 x131001 x131002 x131003 x131004 x131005 x131006 x131007 x131008 x131009 x131010 x131011 x131012 x131013).bind fun t137 => (if t137 = true then ((spec_TaskOk.f x132000 x132001 x132002 x132003 x132004 x132005 x132006 x132007 x132008 x132009 x132010 x132011 x132012 x132013).bind fun t138 => (laws_FnBefore.j2 k x0 x5 x6 (!t138) x131000 x131001 x131002 x131003 x131004 x131005 x131006 x131007 x131008 x131009 x131010 x131011 x131012 x131013 x132000 x132001 x132002 x132003 x132004 x132005 x132006 x132007 x132008 x132009 x132010 x132011 x132012 x132013)) else (laws_FnBefore.j2 k x0 x5 x6 true x131000 x131001 x131002 x131003 x131004 x131005 x131006 x131007 x131008 x131009 x131010 x131011 x131012 x131013 x132000 x132001 x132002 x132003 x132004 x132005 x132006 x132007 x132008 x132009 x132010 x132011 x132012 x132013)))
def laws_FnBefore.j2 : Nat → List Int → Bool → Bool → Bool → Int → Int → Int → Int → Bool → Int → Int → Int → Int → Int → Int → Int → Int → Int → Int → Int → Int → Int → Bool → Int → Int → Int → Int → Int → Int → Int → Int → Int → Option (Bool)
  | 0, _, _, _, _, _, _, _, _, _, _, _, _, _, _, _, _, _, _, _, _, _, _, _, _, _, _, _, _, _, _, _, _ => none
  | k + 1, x0, x5, x6, x45, x131000, x131001, x131002, x131003, x131004, x131005, x131006, x131007, x131008, x131009, x131010, x131011, x131012, x131013, x132000, x132001, x132002, x132003, x132004, x132005, x132006, x132007, x132008, x132009, x132010, x132011, x132012, x132013 => if x45 = true then (if x5 = true then (some false) else (some (!x6))) else (if x131000 = x132000 then (laws_FnBefore.j3 k x0 x5 false x131000 x131001 x131002 x131003 x131004 x131005 x131006 x131007 x131008 x131009 x131010 x131011 x131012 x131013 x132000 x132001 x132002 x132003 x132004 x132005 x132006 x132007 x132008 x132009 x132010 x132011 x132012 x132013) else (if x5 = true then (laws_FnBefore.j3 k x0 x5 false x131000 x131001 x131002 x131003 x131004 x131005 x131006 x131007 x131008 x131009 x131010 x131011 x131012 x131013 x132000 x132001 x132002 x132003 x132004 x132005 x132006 x132007 x132008 x132009 x132010 x132011 x132012 x132013) else (laws_FnBefore.j3 k x0 x5 (!x6) x131000 x131001 x131002 x131003 x131004 x131005 x131006 x131007 x131008 x131009 x131010 x131011 x131012 x131013 x132000 x132001 x132002 x132003 x132004 x132005 x132006 x132007 x132008 x132009 x132010 x132011 x132012 x132013)))
def laws_FnBefore.j3 : Nat → List Int → Bool → Bool → Int → Int → Int → Int → Bool → Int → Int → Int → Int → Int → Int → Int → Int → Int → Int → Int → Int → Int → Bool → Int → Int → Int → Int → Int → Int → Int → Int → Int → Option (Bool)
  | 0, _, _, _, _, _, _, _, _, _, _, _, _, _, _, _, _, _, _, _, _, _, _, _, _, _, _, _, _, _, _, _ => none
  | k + 1, x0, x5, x64, x131000, x131001, x131002, x131003, x131004, x131005, x131006, x131007, x131008, x131009, x131010, x131011, x131012, x131013, x132000, x132001, x132002, x132003, x132004, x132005, x132006, x132007, x132008, x132009, x132010, x132011, x132012, x132013 => if x64 = true then (some false) else ((spec_DrawFairBefore.f k x0).bind fun bt139 => ((impl_FairBefore.f bt139.1 bt139.2.1 bt139.2.2.1 bt139.2.2.2.1 bt139.2.2.2.2.1 bt139.2.2.2.2.2.1 bt139.2.2.2.2.2.2.1 bt139.2.2.2.2.2.2.2.1 bt139.2.2.2.2.2.2.2.2.1 bt139.2.2.2.2.2.2.2.2.2.1 bt139.2.2.2.2.2.2.2.2.2.2.1 bt139.2.2.2.2.2.2.2.2.2.2.2.1 bt139.2.2.2.2.2.2.2.2.2.2.2.2.1 bt139.2.2.2.2.2.2.2.2.2.2.2.2.2.1 bt139.2.2.2.2.2.2.2.2.2.2.2.2.2.2.1 bt139.2.2.2.2.2.2.2.2.2.2.2.2.2.2.2.1 bt139.2.2.2.2.2.2.2.2.2.2.2.2.2.2.2.2.1 bt139.2.2.2.2.2.2.2.2.2.2.2.2.2.2.2.2.2.1 bt139.2.2.2.2.2.2.2.2.2.2.2.2.2.2.2.2.2.2.1 bt139.2.2.2.2.2.2.2.2.2.2.2.2.2.2.2.2.2.2.2.1 bt139.2.2.2.2.2.2.2.2.2.2.2.2.2.2.2.2.2.2.2.2.1 bt139.2.2.2.2.2.2.2.2.2.2.2.2.2.2.2.2.2.2.2.2.2.1 bt139.2.2.2.2.2.2.2.2.2.2.2.2.2.2.2.2.2.2.2.2.2.2.1 bt139.2.2.2.2.2.2.2.2.2.2.2.2.2.2.2.2.2.2.2.2.2.2.2.1 bt139.2.2.2.2.2.2.2.2.2.2.2.2.2.2.2.2.2.2.2.2.2.2.2.2.1 bt139.2.2.2.2.2.2.2.2.2.2.2.2.2.2.2.2.2.2.2.2.2.2.2.2.2.1 bt139.2.2.2.2.2.2.2.2.2.2.2.2.2.2.2.2.2.2.2.2.2.2.2.2.2.2.1 bt139.2.2.2.2.2.2.2.2.2.2.2.2.2.2.2.2.2.2.2.2.2.2.2.2.2.2.2).bind fun t169 => ((spec_FairBefore.f bt139.1 bt139.2.1 bt139.2.2.1 bt139.2.2.2.1 bt139.2.2.2.2.1 bt139.2.2.2.2.2.1 bt139.2.2.2.2.2.2.1 bt139.2.2.2.2.2.2.2.1 bt139.2.2.2.2.2.2.2.2.1 bt139.2.2.2.2.2.2.2.2.2.1 bt139.2.2.2.2.2.2.2.2.2.2.1 bt139.2.2.2.2.2.2.2.2.2.2.2.1 bt139.2.2.2.2.2.2.2.2.2.2.2.2.1 bt139.2.2.2.2.2.2.2.2.2.2.2.2.2.1 bt139.2.2.2.2.2.2.2.2.2.2.2.2.2.2.1 bt139.2.2.2.2.2.2.2.2.2.2.2.2.2.2.2.1 bt139.2.2.2.2.2.2.2.2.2.2.2.2.2.2.2.2.1 bt139.2.2.2.2.2.2.2.2.2.2.2.2.2.2.2.2.2.1 bt139.2.2.2.2.2.2.2.2.2.2.2.2.2.2.2.2.2.2.1 bt139.2.2.2.2.2.2.2.2.2.2.2.2.2.2.2.2.2.2.2.1 bt139.2.2.2.2.2.2.2.2.2.2.2.2.2.2.2.2.2.2.2.2.1 bt139.2.2.2.2.2.2.2.2.2.2.2.2.2.2.2.2.2.2.2.2.2.1 bt139.2.2.2.2.2.2.2.2.2.2.2.2.2.2.2.2.2.2.2.2.2.2.1 bt139.2.2.2.2.2.2.2.2.2.2.2.2.2.2.2.2.2.2.2.2.2.2.2.1 bt139.2.2.2.2.2.2.2.2.2.2.2.2.2.2.2.2.2.2.2.2.2.2.2.2.1 bt139.2.2.2.2.2.2.2.2.2.2.2.2.2.2.2.2.2.2.2.2.2.2.2.2.2.1 bt139.2.2.2.2.2.2.2.2.2.2.2.2.2.2.2.2.2.2.2.2.2.2.2.2.2.2.1 bt139.2.2.2.2.2.2.2.2.2.2.2.2.2.2.2.2.2.2.2.2.2.2.2.2.2.2.2).bind fun t170 => (laws_FnBefore.j4 k x5 (t169 != t170) x131000 x131001 x131002 x131003 x131004 x131005 x131006 x131007 x131008 x131009 x131010 x131011 x131012 x131013 x132000 x132001 x132002 x132003 x132004 x132005 x132006 x132007 x132008 x132009 x132010 x132011 x132012 x132013 bt139.1 bt139.2.1 bt139.2.2.1 bt139.2.2.2.1 bt139.2.2.2.2.1 bt139.2.2.2.2.2.1 bt139.2.2.2.2.2.2.1 bt139.2.2.2.2.2.2.2.1 bt139.2.2.2.2.2.2.2.2.1 bt139.2.2.2.2.2.2.2.2.2.1 bt139.2.2.2.2.2.2.2.2.2.2.1 bt139.2.2.2.2.2.2.2.2.2.2.2.1 bt139.2.2.2.2.2.2.2.2.2.2.2.2.1 bt139.2.2.2.2.2.2.2.2.2.2.2.2.2.1))))
def laws_FnBefore.j4 : Nat → Bool → Bool → Int → Int → Int → Int → Bool → Int → Int → Int → Int → Int → Int → Int → Int → Int → Int → Int → Int → Int → Bool → Int → Int → Int → Int → Int → Int → Int → Int → Int → Int → Int → Int → Int → Bool → Int → Int → Int → Int → Int → Int → Int → Int → Int → Option (Bool)
  | 0, _, _, _, _, _, _, _, _, _, _, _, _, _, _, _, _, _, _, _, _, _, _, _, _, _, _, _, _, _, _, _, _, _, _, _, _, _, _, _, _, _, _, _, _ => none
  | k + 1, x5, x76, x131000, x131001, x131002, x131003, x131004, x131005, x131006, x131007, x131008, x131009, x131010, x131011, x131012, x131013, x132000, x132001, x132002, x132003, x132004, x132005, x132006, x132007, x132008, x132009, x132010, x132011, x132012, x132013, x168000, x168001, x168002, x168003, x168004, x168005, x168006, x168007, x168008, x168009, x168010, x168011, x168012, x168013 => if x76 = true then (some false) else (if x5 = true then ((impl_Before.f k x132000 x132001 x132002 x132003 x132004 x132005 x132006 x132007 x132008 x132009 x132010 x132011 x132012 x132013 x168000 x168001 x168002 x168003 x168004 x168005 x168006 x168007 x168008 x168009 x168010 x168011 x168012 x168013).bind fun t171 => (if t171 = true then ((impl_Before.f k x131000 x131001 x131002 x131003 x131004 x131005 x131006 x131007 x131008 x131009 x131010 x131011 x131012 x131013 x168000 x168001 x168002 x168003 x168004 x168005 x168006 x168007 x168008 x168009 x168010 x168011 x168012 x168013).bind fun t172 => (some t172)) else (some true))) else (some true))
end
def laws_FnBefore.f (k : Nat) (l0 : List Int) : Option (Bool) := (laws_big.f l0).bind fun t101 => (if t101 = true then (some true) else ((spec_DrawBefore.f k l0).bind fun bt102 => ((impl_Before.f k bt102.1 bt102.2.1 bt102.2.2.1 bt102.2.2.2.1 bt102.2.2.2.2.1 bt102.2.2.2.2.2.1 bt102.2.2.2.2.2.2.1 bt102.2.2.2.2.2.2.2.1 bt102.2.2.2.2.2.2.2.2.1 bt102.2.2.2.2.2.2.2.2.2.1 bt102.2.2.2.2.2.2.2.2.2.2.1 bt102.2.2.2.2.2.2.2.2.2.2.2.1 bt102.2.2.2.2.2.2.2.2.2.2.2.2.1 bt102.2.2.2.2.2.2.2.2.2.2.2.2.2.1 bt102.2.2.2.2.2.2.2.2.2.2.2.2.2.2.1 bt102.2.2.2.2.2.2.2.2.2.2.2.2.2.2.2.1 bt102.2.2.2.2.2.2.2.2.2.2.2.2.2.2.2.2.1 bt102.2.2.2.2.2.2.2.2.2.2.2.2.2.2.2.2.2.1 bt102.2.2.2.2.2.2.2.2.2.2.2.2.2.2.2.2.2.2.1 bt102.2.2.2.2.2.2.2.2.2.2.2.2.2.2.2.2.2.2.2.1 bt102.2.2.2.2.2.2.2.2.2.2.2.2.2.2.2.2.2.2.2.2.1 bt102.2.2.2.2.2.2.2.2.2.2.2.2.2.2.2.2.2.2.2.2.2.1 bt102.2.2.2.2.2.2.2.2.2.2.2.2.2.2.2.2.2.2.2.2.2.2.1 bt102.2.2.2.2.2.2.2.2.2.2.2.2.2.2.2.2.2.2.2.2.2.2.2.1 bt102.2.2.2.2.2.2.2.2.2.2.2.2.2.2.2.2.2.2.2.2.2.2.2.2.1 bt102.2.2.2.2.2.2.2.2.2.2.2.2.2.2.2.2.2.2.2.2.2.2.2.2.2.1 bt102.2.2.2.2.2.2.2.2.2.2.2.2.2.2.2.2.2.2.2.2.2.2.2.2.2.2.1 bt102.2.2.2.2.2.2.2.2.2.2.2.2.2.2.2.2.2.2.2.2.2.2.2.2.2.2.2).bind fun t132 => ((impl_Before.f k bt102.2.2.2.2.2.2.2.2.2.2.2.2.2.2.1 bt102.2.2.2.2.2.2.2.2.2.2.2.2.2.2.2.1 bt102.2.2.2.2.2.2.2.2.2.2.2.2.2.2.2.2.1 bt102.2.2.2.2.2.2.2.2.2.2.2.2.2.2.2.2.2.1 bt102.2.2.2.2.2.2.2.2.2.2.2.2.2.2.2.2.2.2.1 bt102.2.2.2.2.2.2.2.2.2.2.2.2.2.2.2.2.2.2.2.1 bt102.2.2.2.2.2.2.2.2.2.2.2.2.2.2.2.2.2.2.2.2.1 bt102.2.2.2.2.2.2.2.2.2.2.2.2.2.2.2.2.2.2.2.2.2.1 bt102.2.2.2.2.2.2.2.2.2.2.2.2.2.2.2.2.2.2.2.2.2.2.1 bt102.2.2.2.2.2.2.2.2.2.2.2.2.2.2.2.2.2.2.2.2.2.2.2.1 bt102.2.2.2.2.2.2.2.2.2.2.2.2.2.2.2.2.2.2.2.2.2.2.2.2.1 bt102.2.2.2.2.2.2.2.2.2.2.2.2.2.2.2.2.2.2.2.2.2.2.2.2.2.1 bt102.2.2.2.2.2.2.2.2.2.2.2.2.2.2.2.2.2.2.2.2.2.2.2.2.2.2.1 bt102.2.2.2.2.2.2.2.2.2.2.2.2.2.2.2.2.2.2.2.2.2.2.2.2.2.2.2 bt102.1 bt102.2.1 bt102.2.2.1 bt102.2.2.2.1 bt102.2.2.2.2.1 bt102.2.2.2.2.2.1 bt102.2.2.2.2.2.2.1 bt102.2.2.2.2.2.2.2.1 bt102.2.2.2.2.2.2.2.2.1 bt102.2.2.2.2.2.2.2.2.2.1 bt102.2.2.2.2.2.2.2.2.2.2.1 bt102.2.2.2.2.2.2.2.2.2.2.2.1 bt102.2.2.2.2.2.2.2.2.2.2.2.2.1 bt102.2.2.2.2.2.2.2.2.2.2.2.2.2.1).bind fun t133 => (laws_FnBefore.j0 k l0 t132 t133 bt102.1 bt102.2.1 bt102.2.2.1 bt102.2.2.2.1 bt102.2.2.2.2.1 bt102.2.2.2.2.2.1 bt102.2.2.2.2.2.2.1 bt102.2.2.2.2.2.2.2.1 bt102.2.2.2.2.2.2.2.2.1 bt102.2.2.2.2.2.2.2.2.2.1 bt102.2.2.2.2.2.2.2.2.2.2.1 bt102.2.2.2.2.2.2.2.2.2.2.2.1 bt102.2.2.2.2.2.2.2.2.2.2.2.2.1 bt102.2.2.2.2.2.2.2.2.2.2.2.2.2.1 bt102.2.2.2.2.2.2.2.2.2.2.2.2.2.2.1 bt102.2.2.2.2.2.2.2.2.2.2.2.2.2.2.2.1 bt102.2.2.2.2.2.2.2.2.2.2.2.2.2.2.2.2.1 bt102.2.2.2.2.2.2.2.2.2.2.2.2.2.2.2.2.2.1 bt102.2.2.2.2.2.2.2.2.2.2.2.2.2.2.2.2.2.2.1 bt102.2.2.2.2.2.2.2.2.2.2.2.2.2.2.2.2.2.2.2.1 bt102.2.2.2.2.2.2.2.2.2.2.2.2.2.2.2.2.2.2.2.2.1 bt102.2.2.2.2.2.2.2.2.2.2.2.2.2.2.2.2.2.2.2.2.2.1 bt102.2.2.2.2.2.2.2.2.2.2.2.2.2.2.2.2.2.2.2.2.2.2.1 bt102.2.2.2.2.2.2.2.2.2.2.2.2.2.2.2.2.2.2.2.2.2.2.2.1 bt102.2.2.2.2.2.2.2.2.2.2.2.2.2.2.2.2.2.2.2.2.2.2.2.2.1 bt102.2.2.2.2.2.2.2.2.2.2.2.2.2.2.2.2.2.2.2.2.2.2.2.2.2.1 bt102.2.2.2.2.2.2.2.2.2.2.2.2.2.2.2.2.2.2.2.2.2.2.2.2.2.2.1 bt102.2.2.2.2.2.2.2.2.2.2.2.2.2.2.2.2.2.2.2.2.2.2.2.2.2.2.2)))))
theorem laws_FnBefore.mono_l : ∀ k, (∀ y0 y1 y2 y3 y4 y5 y6 y7 y8 y9 y10 y11 y12 y13 y14 y15 y16 y17 y18 y19 y20 y21 y22 y23 y24 y25 y26 y27 y28 y29 y30, LeO (laws_FnBefore.j0 k y0 y1 y2 y3 y4 y5 y6 y7 y8 y9 y10 y11 y12 y13 y14 y15 y16 y17 y18 y19 y20 y21 y22 y23 y24 y25 y26 y27 y28 y29 y30) (laws_FnBefore.j0 (k + 1) y0 y1 y2 y3 y4 y5 y6 y7 y8 y9 y10 y11 y12 y13 y14 y15 y16 y17 y18 y19 y20 y21 y22 y23 y24 y25 y26 y27 y28 y29 y30)) ∧ (∀ y0 y1 y2 y3 y4 y5 y6 y7 y8 y9 y10 y11 y12 y13 y14 y15 y16 y17 y18 y19 y20 y21 y22 y23 y24 y25 y26 y27 y28 y29 y30 y31, LeO (laws_FnBefore.j1 k y0 y1 y2 y3 y4 y5 y6 y7 y8 y9 y10 y11 y12 y13 y14 y15 y16 y17 y18 y19 y20 y21 y22 y23 y24 y25 y26 y27 y28 y29 y30 y31) (laws_FnBefore.j1 (k + 1) y0 y1 y2 y3 y4 y5 y6 y7 y8 y9 y10 y11 y12 y13 y14 y15 y16 y17 y18 y19 y20 y21 y22 y23 y24 y25 y26 y27 y28 y29 y30 y31)) ∧ (∀ y0 y1 y2 y3 y4 y5 y6 y7 y8 y9 y10 y11 y12 y13 y14 y15 y16 y17 y18 y19 y20 y21 y22 y23 y24 y25 y26 y27 y28 y29 y30 y31, LeO (laws_FnBefore.j2 k y0 y1 y2 y3 y4 y5 y6 y7 y8 y9 y10 y11 y12 y13 y14 y15 y16 y17 y18 y19 y20 y21 y22 y23 y24 y25 y26 y27 y28 y29 y30 y31) (laws_FnBefore.j2 (k + 1) y0 y1 y2 y3 y4 y5 y6 y7 y8 y9 y10 y11 y12 y13 y14 y15 y16 y17 y18 y19 y20 y21 y22 y23 y24 y25 y26 y27 y28 y29 y30 y31)) ∧ (∀ y0 y1 y2 y3 y4 y5 y6 y7 y8 y9 y10 y11 y12 y13 y14 y15 y16 y17 y18 y19 y20 y21 y22 y23 y24 y25 y26 y27 y28 y29 y30, LeO (laws_FnBefore.j3 k y0 y1 y2 y3 y4 y5 y6 y7 y8 y9 y10 y11 y12 y13 y14 y15 y16 y17 y18 y19 y20 y21 y22 y23 y24 y25 y26 y27 y28 y29 y30) (laws_FnBefore.j3 (k + 1) y0 y1 y2 y3 y4 y5 y6 y7 y8 y9 y10 y11 y12 y13 y14 y15 y16 y17 y18 y19 y20 y21 y22 y23 y24 y25 y26 y27 y28 y29 y30)) ∧ (∀ y0 y1 y2 y3 y4 y5 y6 y7 y8 y9 y10 y11 y12 y13 y14 y15 y16 y17 y18 y19 y20 y21 y22 y23 y24 y25 y26 y27 y28 y29 y30 y31 y32 y33 y34 y35 y36 y37 y38 y39 y40 y41 y42 y43, LeO (laws_FnBefore.j4 k y0 y1 y2 y3 y4 y5 y6 y7 y8 y9 y10 y11 y12 y13 y14 y15 y16 y17 y18 y19 y20 y21 y22 y23 y24 y25 y26 y27 y28 y29 y30 y31 y32 y33 y34 y35 y36 y37 y38 y39 y40 y41 y42 y43) (laws_FnBefore.j4 (k + 1) y0 y1 y2 y3 y4 y5 y6 y7 y8 y9 y10 y11 y12 y13 y14 y15 y16 y17 y18 y19 y20 y21 y22 y23 y24 y25 y26 y27 y28 y29 y30 y31 y32 y33 y34 y35 y36 y37 y38 y39 y40 y41 y42 y43))
  | 0 => ⟨fun _ _ _ _ _ _ _ _ _ _ _ _ _ _ _ _ _ _ _ _ _ _ _ _ _ _ _ _ _ _ _ r h => by simp [laws_FnBefore.j0] at h, fun _ _ _ _ _ _ _ _ _ _ _ _ _ _ _ _ _ _ _ _ _ _ _ _ _ _ _ _ _ _ _ _ r h => by simp [laws_FnBefore.j1] at h, fun _ _ _ _ _ _ _ _ _ _ _ _ _ _ _ _ _ _ _ _ _ _ _ _ _ _ _ _ _ _ _ _ r h => by simp [laws_FnBefore.j2] at h, fun _ _ _ _ _ _ _ _ _ _ _ _ _ _ _ _ _ _ _ _ _ _ _ _ _ _ _ _ _ _ _ r h => by simp [laws_FnBefore.j3] at h, fun _ _ _ _ _ _ _ _ _ _ _ _ _ _ _ _ _ _ _ _ _ _ _ _ _ _ _ _ _ _ _ _ _ _ _ _ _ _ _ _ _ _ _ _ r h => by simp [laws_FnBefore.j4] at h⟩
  | k + 1 => by
    obtain ⟨ih0, ih1, ih2, ih3, ih4⟩ := laws_FnBefore.mono_l k
    refine ⟨?_, ?_, ?_, ?_, ?_⟩
    · intro y0 y1 y2 y3 y4 y5 y6 y7 y8 y9 y10 y11 y12 y13 y14 y15 y16 y17 y18 y19 y20 y21 y22 y23 y24 y25 y26 y27 y28 y29 y30
      unfold laws_FnBefore.j0
      repeat' first
      | (with_reducible exact ih0 _ _ _ _ _ _ _ _ _ _ _ _ _ _ _ _ _ _ _ _ _ _ _ _ _ _ _ _ _ _ _)
      | (with_reducible exact ih1 _ _ _ _ _ _ _ _ _ _ _ _ _ _ _ _ _ _ _ _ _ _ _ _ _ _ _ _ _ _ _ _)
      | (with_reducible exact ih2 _ _ _ _ _ _ _ _ _ _ _ _ _ _ _ _ _ _ _ _ _ _ _ _ _ _ _ _ _ _ _ _)
      | (with_reducible exact ih3 _ _ _ _ _ _ _ _ _ _ _ _ _ _ _ _ _ _ _ _ _ _ _ _ _ _ _ _ _ _ _)
      | (with_reducible exact ih4 _ _ _ _ _ _ _ _ _ _ _ _ _ _ _ _ _ _ _ _ _ _ _ _ _ _ _ _ _ _ _ _ _ _ _ _ _ _ _ _ _ _ _ _)
      | (with_reducible exact impl_Before.mono _ _ _ _ _ _ _ _ _ _ _ _ _ _ _ _ _ _ _ _ _ _ _ _ _ _ _ _ _)
      | (with_reducible exact spec_Before.mono _ _ _ _ _ _ _ _ _ _ _ _ _ _ _ _ _ _ _ _ _ _ _ _ _ _ _ _ _)
      | (with_reducible exact spec_DrawBefore.mono _ _)
      | (with_reducible exact spec_DrawFairBefore.mono _ _)
      | (with_reducible exact LeO.refl _)
      | (with_reducible exact LeO.none _)
      | (with_reducible refine LeO.ite ?_ ?_)
      | (with_reducible refine LeO.bind ?_ (fun _ => ?_))
      | exact ih0 _ _ _ _ _ _ _ _ _ _ _ _ _ _ _ _ _ _ _ _ _ _ _ _ _ _ _ _ _ _ _
      | exact ih1 _ _ _ _ _ _ _ _ _ _ _ _ _ _ _ _ _ _ _ _ _ _ _ _ _ _ _ _ _ _ _ _
      | exact ih2 _ _ _ _ _ _ _ _ _ _ _ _ _ _ _ _ _ _ _ _ _ _ _ _ _ _ _ _ _ _ _ _
      | exact ih3 _ _ _ _ _ _ _ _ _ _ _ _ _ _ _ _ _ _ _ _ _ _ _ _ _ _ _ _ _ _ _
      | exact ih4 _ _ _ _ _ _ _ _ _ _ _ _ _ _ _ _ _ _ _ _ _ _ _ _ _ _ _ _ _ _ _ _ _ _ _ _ _ _ _ _ _ _ _ _
      | exact impl_Before.mono _ _ _ _ _ _ _ _ _ _ _ _ _ _ _ _ _ _ _ _ _ _ _ _ _ _ _ _ _
      | exact spec_Before.mono _ _ _ _ _ _ _ _ _ _ _ _ _ _ _ _ _ _ _ _ _ _ _ _ _ _ _ _ _
      | exact spec_DrawBefore.mono _ _
      | exact spec_DrawFairBefore.mono _ _
      | exact LeO.none _
      | refine LeO.ite ?_ ?_
      | refine LeO.bind ?_ (fun _ => ?_)
    · intro y0 y1 y2 y3 y4 y5 y6 y7 y8 y9 y10 y11 y12 y13 y14 y15 y16 y17 y18 y19 y20 y21 y22 y23 y24 y25 y26 y27 y28 y29 y30 y31
      unfold laws_FnBefore.j1
      repeat' first
      | (with_reducible exact ih0 _ _ _ _ _ _ _ _ _ _ _ _ _ _ _ _ _ _ _ _ _ _ _ _ _ _ _ _ _ _ _)
      | (with_reducible exact ih1 _ _ _ _ _ _ _ _ _ _ _ _ _ _ _ _ _ _ _ _ _ _ _ _ _ _ _ _ _ _ _ _)
      | (with_reducible exact ih2 _ _ _ _ _ _ _ _ _ _ _ _ _ _ _ _ _ _ _ _ _ _ _ _ _ _ _ _ _ _ _ _)
      | (with_reducible exact ih3 _ _ _ _ _ _ _ _ _ _ _ _ _ _ _ _ _ _ _ _ _ _ _ _ _ _ _ _ _ _ _)
      | (with_reducible exact ih4 _ _ _ _ _ _ _ _ _ _ _ _ _ _ _ _ _ _ _ _ _ _ _ _ _ _ _ _ _ _ _ _ _ _ _ _ _ _ _ _ _ _ _ _)
      | (with_reducible exact impl_Before.mono _ _ _ _ _ _ _ _ _ _ _ _ _ _ _ _ _ _ _ _ _ _ _ _ _ _ _ _ _)
      | (with_reducible exact spec_Before.mono _ _ _ _ _ _ _ _ _ _ _ _ _ _ _ _ _ _ _ _ _ _ _ _ _ _ _ _ _)
      | (with_reducible exact spec_DrawBefore.mono _ _)
      | (with_reducible exact spec_DrawFairBefore.mono _ _)
      | (with_reducible exact LeO.refl _)
      | (with_reducible exact LeO.none _)
      | (with_reducible refine LeO.ite ?_ ?_)
      | (with_reducible refine LeO.bind ?_ (fun _ => ?_))
      | exact ih0 _ _ _ _ _ _ _ _ _ _ _ _ _ _ _ _ _ _ _ _ _ _ _ _ _ _ _ _ _ _ _
      | exact ih1 _ _ _ _ _ _ _ _ _ _ _ _ _ _ _ _ _ _ _ _ _ _ _ _ _ _ _ _ _ _ _ _
      | exact ih2 _ _ _ _ _ _ _ _ _ _ _ _ _ _ _ _ _ _ _ _ _ _ _ _ _ _ _ _ _ _ _ _
      | exact ih3 _ _ _ _ _ _ _ _ _ _ _ _ _ _ _ _ _ _ _ _ _ _ _ _ _ _ _ _ _ _ _
      | exact ih4 _ _ _ _ _ _ _ _ _ _ _ _ _ _ _ _ _ _ _ _ _ _ _ _ _ _ _ _ _ _ _ _ _ _ _ _ _ _ _ _ _ _ _ _
      | exact impl_Before.mono _ _ _ _ _ _ _ _ _ _ _ _ _ _ _ _ _ _ _ _ _ _ _ _ _ _ _ _ _
      | exact spec_Before.mono _ _ _ _ _ _ _ _ _ _ _ _ _ _ _ _ _ _ _ _ _ _ _ _ _ _ _ _ _
      | exact spec_DrawBefore.mono _ _
      | exact spec_DrawFairBefore.mono _ _
      | exact LeO.none _
      | refine LeO.ite ?_ ?_
      | refine LeO.bind ?_ (fun _ => ?_)
    · intro y0 y1 y2 y3 y4 y5 y6 y7 y8 y9 y10 y11 y12 y13 y14 y15 y16 y17 y18 y19 y20 y21 y22 y23 y24 y25 y26 y27 y28 y29 y30 y31
      unfold laws_FnBefore.j2
      repeat' first
      | (with_reducible exact ih0 _ _ _ _ _ _ _ _ _ _ _ _ _ _ _ _ _ _ _ _ _ _ _ _ _ _ _ _ _ _ _)
      | (with_reducible exact ih1 _ _ _ _ _ _ _ _ _ _ _ _ _ _ _ _ _ _ _ _ _ _ _ _ _ _ _ _ _ _ _ _)
      | (with_reducible exact ih2 _ _ _ _ _ _ _ _ _ _ _ _ _ _ _ _ _ _ _ _ _ _ _ _ _ _ _ _ _ _ _ _)
      | (with_reducible exact ih3 _ _ _ _ _ _ _ _ _ _ _ _ _ _ _ _ _ _ _ _ _ _ _ _ _ _ _ _ _ _ _)
      | (with_reducible exact ih4 _ _ _ _ _ _ _ _ _ _ _ _ _ _ _ _ _ _ _ _ _ _ _ _ _ _ _ _ _ _ _ _ _ _ _ _ _ _ _ _ _ _ _ _)
      | (with_reducible exact impl_Before.mono _ _ _ _ _ _ _ _ _ _ _ _ _ _ _ _ _ _ _ _ _ _ _ _ _ _ _ _ _)
      | (with_reducible exact spec_Before.mono _ _ _ _ _ _ _ _ _ _ _ _ _ _ _ _ _ _ _ _ _ _ _ _ _ _ _ _ _)
      | (with_reducible exact spec_DrawBefore.mono _ _)
      | (with_reducible exact spec_DrawFairBefore.mono _ _)
      | (with_reducible exact LeO.refl _)
      | (with_reducible exact LeO.none _)
      | (with_reducible refine LeO.ite ?_ ?_)
      | (with_reducible refine LeO.bind ?_ (fun _ => ?_))
      | exact ih0 _ _ _ _ _ _ _ _ _ _ _ _ _ _ _ _ _ _ _ _ _ _ _ _ _ _ _ _ _ _ _
      | exact ih1 _ _ _ _ _ _ _ _ _ _ _ _ _ _ _ _ _ _ _ _ _ _ _ _ _ _ _ _ _ _ _ _
      | exact ih2 _ _ _ _ _ _ _ _ _ _ _ _ _ _ _ _ _ _ _ _ _ _ _ _ _ _ _ _ _ _ _ _
      | exact ih3 _ _ _ _ _ _ _ _ _ _ _ _ _ _ _ _ _ _ _ _ _ _ _ _ _ _ _ _ _ _ _
      | exact ih4 _ _ _ _ _ _ _ _ _ _ _ _ _ _ _ _ _ _ _ _ _ _ _ _ _ _ _ _ _ _ _ _ _ _ _ _ _ _ _ _ _ _ _ _
      | exact impl_Before.mono _ _ _ _ _ _ _ _ _ _ _ _ _ _ _ _ _ _ _ _ _ _ _ _ _ _ _ _ _
      | exact spec_Before.mono _ _ _ _ _ _ _ _ _ _ _ _ _ _ _ _ _ _ _ _ _ _ _ _ _ _ _ _ _
      | exact spec_DrawBefore.mono _ _
      | exact spec_DrawFairBefore.mono _ _
      | exact LeO.none _
      | refine LeO.ite ?_ ?_
      | refine LeO.bind ?_ (fun _ => ?_)
    · intro y0 y1 y2 y3 y4 y5 y6 y7 y8 y9 y10 y11 y12 y13 y14 y15 y16 y17 y18 y19 y20 y21 y22 y23 y24 y25 y26 y27 y28 y29 y30
      unfold laws_FnBefore.j3
      repeat' first
      | (with_reducible exact ih0 _ _ _ _ _ _ _ _ _ _ _ _ _ _ _ _ _ _ _ _ _ _ _ _ _ _ _ _ _ _ _)
      | (with_reducible exact ih1 _ _ _ _ _ _ _ _ _ _ _ _ _ _ _ _ _ _ _ _ _ _ _ _ _ _ _ _ _ _ _ _)
      | (with_reducible exact ih2 _ _ _ _ _ _ _ _ _ _ _ _ _ _ _ _ _ _ _ _ _ _ _ _ _ _ _ _ _ _ _ _)
      | (with_reducible exact ih3 _ _ _ _ _ _ _ _ _ _ _ _ _ _ _ _ _ _ _ _ _ _ _ _ _ _ _ _ _ _ _)
      | (with_reducible exact ih4 _ _ _ _ _ _ _ _ _ _ _ _ _ _ _ _ _ _ _ _ _ _ _ _ _ _ _ _ _ _ _ _ _ _ _ _ _ _ _ _ _ _ _ _)
      | (with_reducible exact impl_Before.mono _ _ _ _ _ _ _ _ _ _ _ _ _ _ _ _ _ _ _ _ _ _ _ _ _ _ _ _ _)
      | (with_reducible exact spec_Before.mono _ _ _ _ _ _ _ _ _ _ _ _ _ _ _ _ _ _ _ _ _ _ _ _ _ _ _ _ _)
      | (with_reducible exact spec_DrawBefore.mono _ _)
      | (with_reducible exact spec_DrawFairBefore.mono _ _)
      | (with_reducible exact LeO.refl _)
      | (with_reducible exact LeO.none _)
      | (with_reducible refine LeO.ite ?_ ?_)
      | (with_reducible refine LeO.bind ?_ (fun _ => ?_))
      | exact ih0 _ _ _ _ _ _ _ _ _ _ _ _ _ _ _ _ _ _ _ _ _ _ _ _ _ _ _ _ _ _ _
      | exact ih1 _ _ _ _ _ _ _ _ _ _ _ _ _ _ _ _ _ _ _ _ _ _ _ _ _ _ _ _ _ _ _ _
      | exact ih2 _ _ _ _ _ _ _ _ _ _ _ _ _ _ _ _ _ _ _ _ _ _ _ _ _ _ _ _ _ _ _ _
      | exact ih3 _ _ _ _ _ _ _ _ _ _ _ _ _ _ _ _ _ _ _ _ _ _ _ _ _ _ _ _ _ _ _
      | exact ih4 _ _ _ _ _ _ _ _ _ _ _ _ _ _ _ _ _ _ _ _ _ _ _ _ _ _ _ _ _ _ _ _ _ _ _ _ _ _ _ _ _ _ _ _
      | exact impl_Before.mono _ _ _ _ _ _ _ _ _ _ _ _ _ _ _ _ _ _ _ _ _ _ _ _ _ _ _ _ _
      | exact spec_Before.mono _ _ _ _ _ _ _ _ _ _ _ _ _ _ _ _ _ _ _ _ _ _ _ _ _ _ _ _ _
      | exact spec_DrawBefore.mono _ _
      | exact spec_DrawFairBefore.mono _ _
      | exact LeO.none _
      | refine LeO.ite ?_ ?_
      | refine LeO.bind ?_ (fun _ => ?_)
    intro y0 y1 y2 y3 y4 y5 y6 y7 y8 y9 y10 y11 y12 y13 y14 y15 y16 y17 y18 y19 y20 y21 y22 y23 y24 y25 y26 y27 y28 y29 y30 y31 y32 y33 y34 y35 y36 y37 y38 y39 y40 y41 y42 y43
    unfold laws_FnBefore.j4
    repeat' first
    | (with_reducible exact ih0 _ _ _ _ _ _ _ _ _ _ _ _ _ _ _ _ _ _ _ _ _ _ _ _ _ _ _ _ _ _ _)
    | (with_reducible exact ih1 _ _ _ _ _ _ _ _ _ _ _ _ _ _ _ _ _ _ _ _ _ _ _ _ _ _ _ _ _ _ _ _)
    | (with_reducible exact ih2 _ _ _ _ _ _ _ _ _ _ _ _ _ _ _ _ _ _ _ _ _ _ _ _ _ _ _ _ _ _ _ _)
    | (with_reducible exact ih3 _ _ _ _ _ _ _ _ _ _ _ _ _ _ _ _ _ _ _ _ _ _ _ _ _ _ _ _ _ _ _)
    | (with_reducible exact ih4 _ _ _ _ _ _ _ _ _ _ _ _ _ _ _ _ _ _ _ _ _ _ _ _ _ _ _ _ _ _ _ _ _ _ _ _ _ _ _ _ _ _ _ _)
    | (with_reducible exact impl_Before.mono _ _ _ _ _ _ _ _ _ _ _ _ _ _ _ _ _ _ _ _ _ _ _ _ _ _ _ _ _)
    | (with_reducible exact spec_Before.mono _ _ _ _ _ _ _ _ _ _ _ _ _ _ _ _ _ _ _ _ _ _ _ _ _ _ _ _ _)
    | (with_reducible exact spec_DrawBefore.mono _ _)
    | (with_reducible exact spec_DrawFairBefore.mono _ _)
    | (with_reducible exact LeO.refl _)
    | (with_reducible exact LeO.none _)
    | (with_reducible refine LeO.ite ?_ ?_)
    | (with_reducible refine LeO.bind ?_ (fun _ => ?_))
    | exact ih0 _ _ _ _ _ _ _ _ _ _ _ _ _ _ _ _ _ _ _ _ _ _ _ _ _ _ _ _ _ _ _
    | exact ih1 _ _ _ _ _ _ _ _ _ _ _ _ _ _ _ _ _ _ _ _ _ _ _ _ _ _ _ _ _ _ _ _
    | exact ih2 _ _ _ _ _ _ _ _ _ _ _ _ _ _ _ _ _ _ _ _ _ _ _ _ _ _ _ _ _ _ _ _
    | exact ih3 _ _ _ _ _ _ _ _ _ _ _ _ _ _ _ _ _ _ _ _ _ _ _ _ _ _ _ _ _ _ _
    | exact ih4 _ _ _ _ _ _ _ _ _ _ _ _ _ _ _ _ _ _ _ _ _ _ _ _ _ _ _ _ _ _ _ _ _ _ _ _ _ _ _ _ _ _ _ _
    | exact impl_Before.mono _ _ _ _ _ _ _ _ _ _ _ _ _ _ _ _ _ _ _ _ _ _ _ _ _ _ _ _ _
    | exact spec_Before.mono _ _ _ _ _ _ _ _ _ _ _ _ _ _ _ _ _ _ _ _ _ _ _ _ _ _ _ _ _
    | exact spec_DrawBefore.mono _ _
    | exact spec_DrawFairBefore.mono _ _
    | exact LeO.none _
    | refine LeO.ite ?_ ?_
    | refine LeO.bind ?_ (fun _ => ?_)
theorem laws_FnBefore.mono : ∀ a0 k, LeO (laws_FnBefore.f k a0) (laws_FnBefore.f (k + 1) a0) := by
  intro a0 k
  obtain ⟨ih0, ih1, ih2, ih3, ih4⟩ := laws_FnBefore.mono_l k
  unfold laws_FnBefore.f
  repeat' first
      | (with_reducible exact ih0 _ _ _ _ _ _ _ _ _ _ _ _ _ _ _ _ _ _ _ _ _ _ _ _ _ _ _ _ _ _ _)
      | (with_reducible exact ih1 _ _ _ _ _ _ _ _ _ _ _ _ _ _ _ _ _ _ _ _ _ _ _ _ _ _ _ _ _ _ _ _)
      | (with_reducible exact ih2 _ _ _ _ _ _ _ _ _ _ _ _ _ _ _ _ _ _ _ _ _ _ _ _ _ _ _ _ _ _ _ _)
      | (with_reducible exact ih3 _ _ _ _ _ _ _ _ _ _ _ _ _ _ _ _ _ _ _ _ _ _ _ _ _ _ _ _ _ _ _)
      | (with_reducible exact ih4 _ _ _ _ _ _ _ _ _ _ _ _ _ _ _ _ _ _ _ _ _ _ _ _ _ _ _ _ _ _ _ _ _ _ _ _ _ _ _ _ _ _ _ _)
      | (with_reducible exact impl_Before.mono _ _ _ _ _ _ _ _ _ _ _ _ _ _ _ _ _ _ _ _ _ _ _ _ _ _ _ _ _)
      | (with_reducible exact spec_Before.mono _ _ _ _ _ _ _ _ _ _ _ _ _ _ _ _ _ _ _ _ _ _ _ _ _ _ _ _ _)
      | (with_reducible exact spec_DrawBefore.mono _ _)
      | (with_reducible exact spec_DrawFairBefore.mono _ _)
      | (with_reducible exact LeO.refl _)
      | (with_reducible exact LeO.none _)
      | (with_reducible refine LeO.ite ?_ ?_)
      | (with_reducible refine LeO.bind ?_ (fun _ => ?_))
      | exact ih0 _ _ _ _ _ _ _ _ _ _ _ _ _ _ _ _ _ _ _ _ _ _ _ _ _ _ _ _ _ _ _
      | exact ih1 _ _ _ _ _ _ _ _ _ _ _ _ _ _ _ _ _ _ _ _ _ _ _ _ _ _ _ _ _ _ _ _
      | exact ih2 _ _ _ _ _ _ _ _ _ _ _ _ _ _ _ _ _ _ _ _ _ _ _ _ _ _ _ _ _ _ _ _
      | exact ih3 _ _ _ _ _ _ _ _ _ _ _ _ _ _ _ _ _ _ _ _ _ _ _ _ _ _ _ _ _ _ _
      | exact ih4 _ _ _ _ _ _ _ _ _ _ _ _ _ _ _ _ _ _ _ _ _ _ _ _ _ _ _ _ _ _ _ _ _ _ _ _ _ _ _ _ _ _ _ _
      | exact impl_Before.mono _ _ _ _ _ _ _ _ _ _ _ _ _ _ _ _ _ _ _ _ _ _ _ _ _ _ _ _ _
      | exact spec_Before.mono _ _ _ _ _ _ _ _ _ _ _ _ _ _ _ _ _ _ _ _ _ _ _ _ _ _ _ _ _
      | exact spec_DrawBefore.mono _ _
      | exact spec_DrawFairBefore.mono _ _
      | exact LeO.none _
      | refine LeO.ite ?_ ?_
      | refine LeO.bind ?_ (fun _ => ?_)
def laws_FnBefore.T4 : Bool × List (List Nat × List Nat) := (true, [([], []), ([], []), ([0, 1], [0, 1]), ([], []), ([], []), ([3, 4, 2], [3, 4]), ([2, 5, 0, 1, 2], [2]), ([5, 6, 0, 1, 2, 3, 4, 5, 6], [5])])
def laws_FnBefore.B4 : List Nat := [0, 0, 3, 0, 0, 31, 63, 127]
theorem laws_FnBefore.tab4 : rtab .any (opsOf Try.f6 4) = laws_FnBefore.T4 := by kernel_rfl
theorem laws_FnBefore.bits4 : waitsOk laws_FnBefore.T4.2 laws_FnBefore.B4 = true := by kernel_rfl
set_option maxHeartbeats 60000000 in
set_option maxRecDepth 100000 in
theorem laws_FnBefore.calls (k : Nat) (A0 : Option Addr) (c0 : Nat) (l0 : List Int) (r : Bool) (w : World) (hr0 : Kd.C (Kd.int .u8) w A0 l0.length l0) (hc0 : l0.length ≤ c0) (hrt : r = true) (h : laws_FnBefore.f k l0 = some r) :
    Calls Try.prog 6 #[.slice A0 l0.length c0] w fun e w' => e = .returned (.bool r) ∧ Below w.heap.size w w' := by
  have hu27 := Try.underlying27
  have HR0 := Aside0.mk hr0
  have HC0 := Aside0.mk hc0
  clear hr0 hc0
  have HB := aM (Below.refl w.heap.size w)
  have HRT := Aside0.mk hrt
  clear hrt
  have H : ((laws_big.f l0).bind fun t101 => (if t101 = true then (some true) else ((spec_DrawBefore.f k l0).bind fun bt102 => ((impl_Before.f k bt102.1 bt102.2.1 bt102.2.2.1 bt102.2.2.2.1 bt102.2.2.2.2.1 bt102.2.2.2.2.2.1 bt102.2.2.2.2.2.2.1 bt102.2.2.2.2.2.2.2.1 bt102.2.2.2.2.2.2.2.2.1 bt102.2.2.2.2.2.2.2.2.2.1 bt102.2.2.2.2.2.2.2.2.2.2.1 bt102.2.2.2.2.2.2.2.2.2.2.2.1 bt102.2.2.2.2.2.2.2.2.2.2.2.2.1 bt102.2.2.2.2.2.2.2.2.2.2.2.2.2.1 bt102.2.2.2.2.2.2.2.2.2.2.2.2.2.2.1 bt102.2.2.2.2.2.2.2.2.2.2.2.2.2.2.2.1 bt102.2.2.2.2.2.2.2.2.2.2.2.2.2.2.2.2.1 bt102.2.2.2.2.2.2.2.2.2.2.2.2.2.2.2.2.2.1 bt102.2.2.2.2.2.2.2.2.2.2.2.2.2.2.2.2.2.2.1 bt102.2.2.2.2.2.2.2.2.2.2.2.2.2.2.2.2.2.2.2.1 bt102.2.2.2.2.2.2.2.2.2.2.2.2.2.2.2.2.2.2.2.2.1 bt102.2.2.2.2.2.2.2.2.2.2.2.2.2.2.2.2.2.2.2.2.2.1 bt102.2.2.2.2.2.2.2.2.2.2.2.2.2.2.2.2.2.2.2.2.2.2.1 bt102.2.2.2.2.2.2.2.2.2.2.2.2.2.2.2.2.2.2.2.2.2.2.2.1 bt102.2.2.2.2.2.2.2.2.2.2.2.2.2.2.2.2.2.2.2.2.2.2.2.2.1 bt102.2.2.2.2.2.2.2.2.2.2.2.2.2.2.2.2.2.2.2.2.2.2.2.2.2.1 bt102.2.2.2.2.2.2.2.2.2.2.2.2.2.2.2.2.2.2.2.2.2.2.2.2.2.2.1 bt102.2.2.2.2.2.2.2.2.2.2.2.2.2.2.2.2.2.2.2.2.2.2.2.2.2.2.2).bind fun t132 => ((impl_Before.f k bt102.2.2.2.2.2.2.2.2.2.2.2.2.2.2.1 bt102.2.2.2.2.2.2.2.2.2.2.2.2.2.2.2.1 bt102.2.2.2.2.2.2.2.2.2.2.2.2.2.2.2.2.1 bt102.2.2.2.2.2.2.2.2.2.2.2.2.2.2.2.2.2.1 bt102.2.2.2.2.2.2.2.2.2.2.2.2.2.2.2.2.2.2.1 bt102.2.2.2.2.2.2.2.2.2.2.2.2.2.2.2.2.2.2.2.1 bt102.2.2.2.2.2.2.2.2.2.2.2.2.2.2.2.2.2.2.2.2.1 bt102.2.2.2.2.2.2.2.2.2.2.2.2.2.2.2.2.2.2.2.2.2.1 bt102.2.2.2.2.2.2.2.2.2.2.2.2.2.2.2.2.2.2.2.2.2.2.1 bt102.2.2.2.2.2.2.2.2.2.2.2.2.2.2.2.2.2.2.2.2.2.2.2.1 bt102.2.2.2.2.2.2.2.2.2.2.2.2.2.2.2.2.2.2.2.2.2.2.2.2.1 bt102.2.2.2.2.2.2.2.2.2.2.2.2.2.2.2.2.2.2.2.2.2.2.2.2.2.1 bt102.2.2.2.2.2.2.2.2.2.2.2.2.2.2.2.2.2.2.2.2.2.2.2.2.2.2.1 bt102.2.2.2.2.2.2.2.2.2.2.2.2.2.2.2.2.2.2.2.2.2.2.2.2.2.2.2 bt102.1 bt102.2.1 bt102.2.2.1 bt102.2.2.2.1 bt102.2.2.2.2.1 bt102.2.2.2.2.2.1 bt102.2.2.2.2.2.2.1 bt102.2.2.2.2.2.2.2.1 bt102.2.2.2.2.2.2.2.2.1 bt102.2.2.2.2.2.2.2.2.2.1 bt102.2.2.2.2.2.2.2.2.2.2.1 bt102.2.2.2.2.2.2.2.2.2.2.2.1 bt102.2.2.2.2.2.2.2.2.2.2.2.2.1 bt102.2.2.2.2.2.2.2.2.2.2.2.2.2.1).bind fun t133 => (laws_FnBefore.j0 k l0 t132 t133 bt102.1 bt102.2.1 bt102.2.2.1 bt102.2.2.2.1 bt102.2.2.2.2.1 bt102.2.2.2.2.2.1 bt102.2.2.2.2.2.2.1 bt102.2.2.2.2.2.2.2.1 bt102.2.2.2.2.2.2.2.2.1 bt102.2.2.2.2.2.2.2.2.2.1 bt102.2.2.2.2.2.2.2.2.2.2.1 bt102.2.2.2.2.2.2.2.2.2.2.2.1 bt102.2.2.2.2.2.2.2.2.2.2.2.2.1 bt102.2.2.2.2.2.2.2.2.2.2.2.2.2.1 bt102.2.2.2.2.2.2.2.2.2.2.2.2.2.2.1 bt102.2.2.2.2.2.2.2.2.2.2.2.2.2.2.2.1 bt102.2.2.2.2.2.2.2.2.2.2.2.2.2.2.2.2.1 bt102.2.2.2.2.2.2.2.2.2.2.2.2.2.2.2.2.2.1 bt102.2.2.2.2.2.2.2.2.2.2.2.2.2.2.2.2.2.2.1 bt102.2.2.2.2.2.2.2.2.2.2.2.2.2.2.2.2.2.2.2.1 bt102.2.2.2.2.2.2.2.2.2.2.2.2.2.2.2.2.2.2.2.2.1 bt102.2.2.2.2.2.2.2.2.2.2.2.2.2.2.2.2.2.2.2.2.2.1 bt102.2.2.2.2.2.2.2.2.2.2.2.2.2.2.2.2.2.2.2.2.2.2.1 bt102.2.2.2.2.2.2.2.2.2.2.2.2.2.2.2.2.2.2.2.2.2.2.2.1 bt102.2.2.2.2.2.2.2.2.2.2.2.2.2.2.2.2.2.2.2.2.2.2.2.2.1 bt102.2.2.2.2.2.2.2.2.2.2.2.2.2.2.2.2.2.2.2.2.2.2.2.2.2.1 bt102.2.2.2.2.2.2.2.2.2.2.2.2.2.2.2.2.2.2.2.2.2.2.2.2.2.2.1 bt102.2.2.2.2.2.2.2.2.2.2.2.2.2.2.2.2.2.2.2.2.2.2.2.2.2.2.2)))))) = some r := h
  clear h
  replace H := Option.bind_eq_some_iff.mp H
  obtain ⟨t101, A20, H⟩ := H
  replace H : (if t101 = true then (some true) else ((spec_DrawBefore.f k l0).bind fun bt102 => ((impl_Before.f k bt102.1 bt102.2.1 bt102.2.2.1 bt102.2.2.2.1 bt102.2.2.2.2.1 bt102.2.2.2.2.2.1 bt102.2.2.2.2.2.2.1 bt102.2.2.2.2.2.2.2.1 bt102.2.2.2.2.2.2.2.2.1 bt102.2.2.2.2.2.2.2.2.2.1 bt102.2.2.2.2.2.2.2.2.2.2.1 bt102.2.2.2.2.2.2.2.2.2.2.2.1 bt102.2.2.2.2.2.2.2.2.2.2.2.2.1 bt102.2.2.2.2.2.2.2.2.2.2.2.2.2.1 bt102.2.2.2.2.2.2.2.2.2.2.2.2.2.2.1 bt102.2.2.2.2.2.2.2.2.2.2.2.2.2.2.2.1 bt102.2.2.2.2.2.2.2.2.2.2.2.2.2.2.2.2.1 bt102.2.2.2.2.2.2.2.2.2.2.2.2.2.2.2.2.2.1 bt102.2.2.2.2.2.2.2.2.2.2.2.2.2.2.2.2.2.2.1 bt102.2.2.2.2.2.2.2.2.2.2.2.2.2.2.2.2.2.2.2.1 bt102.2.2.2.2.2.2.2.2.2.2.2.2.2.2.2.2.2.2.2.2.1 bt102.2.2.2.2.2.2.2.2.2.2.2.2.2.2.2.2.2.2.2.2.2.1 bt102.2.2.2.2.2.2.2.2.2.2.2.2.2.2.2.2.2.2.2.2.2.2.1 bt102.2.2.2.2.2.2.2.2.2.2.2.2.2.2.2.2.2.2.2.2.2.2.2.1 bt102.2.2.2.2.2.2.2.2.2.2.2.2.2.2.2.2.2.2.2.2.2.2.2.2.1 bt102.2.2.2.2.2.2.2.2.2.2.2.2.2.2.2.2.2.2.2.2.2.2.2.2.2.1 bt102.2.2.2.2.2.2.2.2.2.2.2.2.2.2.2.2.2.2.2.2.2.2.2.2.2.2.1 bt102.2.2.2.2.2.2.2.2.2.2.2.2.2.2.2.2.2.2.2.2.2.2.2.2.2.2.2).bind fun t132 => ((impl_Before.f k bt102.2.2.2.2.2.2.2.2.2.2.2.2.2.2.1 bt102.2.2.2.2.2.2.2.2.2.2.2.2.2.2.2.1 bt102.2.2.2.2.2.2.2.2.2.2.2.2.2.2.2.2.1 bt102.2.2.2.2.2.2.2.2.2.2.2.2.2.2.2.2.2.1 bt102.2.2.2.2.2.2.2.2.2.2.2.2.2.2.2.2.2.2.1 bt102.2.2.2.2.2.2.2.2.2.2.2.2.2.2.2.2.2.2.2.1 bt102.2.2.2.2.2.2.2.2.2.2.2.2.2.2.2.2.2.2.2.2.1 bt102.2.2.2.2.2.2.2.2.2.2.2.2.2.2.2.2.2.2.2.2.2.1 bt102.2.2.2.2.2.2.2.2.2.2.2.2.2.2.2.2.2.2.2.2.2.2.1 bt102.2.2.2.2.2.2.2.2.2.2.2.2.2.2.2.2.2.2.2.2.2.2.2.1 bt102.2.2.2.2.2.2.2.2.2.2.2.2.2.2.2.2.2.2.2.2.2.2.2.2.1 bt102.2.2.2.2.2.2.2.2.2.2.2.2.2.2.2.2.2.2.2.2.2.2.2.2.2.1 bt102.2.2.2.2.2.2.2.2.2.2.2.2.2.2.2.2.2.2.2.2.2.2.2.2.2.2.1 bt102.2.2.2.2.2.2.2.2.2.2.2.2.2.2.2.2.2.2.2.2.2.2.2.2.2.2.2 bt102.1 bt102.2.1 bt102.2.2.1 bt102.2.2.2.1 bt102.2.2.2.2.1 bt102.2.2.2.2.2.1 bt102.2.2.2.2.2.2.1 bt102.2.2.2.2.2.2.2.1 bt102.2.2.2.2.2.2.2.2.1 bt102.2.2.2.2.2.2.2.2.2.1 bt102.2.2.2.2.2.2.2.2.2.2.1 bt102.2.2.2.2.2.2.2.2.2.2.2.1 bt102.2.2.2.2.2.2.2.2.2.2.2.2.1 bt102.2.2.2.2.2.2.2.2.2.2.2.2.2.1).bind fun t133 => (laws_FnBefore.j0 k l0 t132 t133 bt102.1 bt102.2.1 bt102.2.2.1 bt102.2.2.2.1 bt102.2.2.2.2.1 bt102.2.2.2.2.2.1 bt102.2.2.2.2.2.2.1 bt102.2.2.2.2.2.2.2.1 bt102.2.2.2.2.2.2.2.2.1 bt102.2.2.2.2.2.2.2.2.2.1 bt102.2.2.2.2.2.2.2.2.2.2.1 bt102.2.2.2.2.2.2.2.2.2.2.2.1 bt102.2.2.2.2.2.2.2.2.2.2.2.2.1 bt102.2.2.2.2.2.2.2.2.2.2.2.2.2.1 bt102.2.2.2.2.2.2.2.2.2.2.2.2.2.2.1 bt102.2.2.2.2.2.2.2.2.2.2.2.2.2.2.2.1 bt102.2.2.2.2.2.2.2.2.2.2.2.2.2.2.2.2.1 bt102.2.2.2.2.2.2.2.2.2.2.2.2.2.2.2.2.2.1 bt102.2.2.2.2.2.2.2.2.2.2.2.2.2.2.2.2.2.2.1 bt102.2.2.2.2.2.2.2.2.2.2.2.2.2.2.2.2.2.2.2.1 bt102.2.2.2.2.2.2.2.2.2.2.2.2.2.2.2.2.2.2.2.2.1 bt102.2.2.2.2.2.2.2.2.2.2.2.2.2.2.2.2.2.2.2.2.2.1 bt102.2.2.2.2.2.2.2.2.2.2.2.2.2.2.2.2.2.2.2.2.2.2.1 bt102.2.2.2.2.2.2.2.2.2.2.2.2.2.2.2.2.2.2.2.2.2.2.2.1 bt102.2.2.2.2.2.2.2.2.2.2.2.2.2.2.2.2.2.2.2.2.2.2.2.2.1 bt102.2.2.2.2.2.2.2.2.2.2.2.2.2.2.2.2.2.2.2.2.2.2.2.2.2.1 bt102.2.2.2.2.2.2.2.2.2.2.2.2.2.2.2.2.2.2.2.2.2.2.2.2.2.2.1 bt102.2.2.2.2.2.2.2.2.2.2.2.2.2.2.2.2.2.2.2.2.2.2.2.2.2.2.2))))) = some r := H
  have A2 := Aside0.mk A20
  clear A20
  by_cases c3 : t101 = true
  · subst c3
    have H1 : (some true) = some r := by rw [if_pos rfl] at H; exact H
    clear H
    have H := H1
    clear H1
    obtain rfl := Option.some.inj H
    go_enter Try.func6, Try.ntmps6
    go_wp2_with (first | ((with_reducible refine gate_callee (f := 12) rfl ?_); refine gL (some 10) Try.func12 #[.slice A0 l0.length c0] ?_; (with_reducible refine (laws_big.calls _ _ l0 true _ ?side1 ?side2 A2.out).mono ?_); (case side1 => repeat (first | exact HR0.out | (with_reducible refine Kd.C_alloc ?_ _) | (with_reducible refine Kd.C_drewN ?_ _) | (with_reducible refine Kd.C_drew ?_))); (case side2 => exact HC0.out); rintro e w' ⟨rfl, ⟨nd, rfl⟩⟩; refine ⟨_, rfl, ?_⟩))
    all_goals go_ret
    all_goals exact ⟨by first | rfl | (simp <;> rfl) | (simp [*] <;> rfl), bq HB⟩
  replace c3 := Bool.eq_false_iff.mpr c3
  subst c3
  have H1 : ((spec_DrawBefore.f k l0).bind fun bt102 => ((impl_Before.f k bt102.1 bt102.2.1 bt102.2.2.1 bt102.2.2.2.1 bt102.2.2.2.2.1 bt102.2.2.2.2.2.1 bt102.2.2.2.2.2.2.1 bt102.2.2.2.2.2.2.2.1 bt102.2.2.2.2.2.2.2.2.1 bt102.2.2.2.2.2.2.2.2.2.1 bt102.2.2.2.2.2.2.2.2.2.2.1 bt102.2.2.2.2.2.2.2.2.2.2.2.1 bt102.2.2.2.2.2.2.2.2.2.2.2.2.1 bt102.2.2.2.2.2.2.2.2.2.2.2.2.2.1 bt102.2.2.2.2.2.2.2.2.2.2.2.2.2.2.1 bt102.2.2.2.2.2.2.2.2.2.2.2.2.2.2.2.1 bt102.2.2.2.2.2.2.2.2.2.2.2.2.2.2.2.2.1 bt102.2.2.2.2.2.2.2.2.2.2.2.2.2.2.2.2.2.1 bt102.2.2.2.2.2.2.2.2.2.2.2.2.2.2.2.2.2.2.1 bt102.2.2.2.2.2.2.2.2.2.2.2.2.2.2.2.2.2.2.2.1 bt102.2.2.2.2.2.2.2.2.2.2.2.2.2.2.2.2.2.2.2.2.1 bt102.2.2.2.2.2.2.2.2.2.2.2.2.2.2.2.2.2.2.2.2.2.1 bt102.2.2.2.2.2.2.2.2.2.2.2.2.2.2.2.2.2.2.2.2.2.2.1 bt102.2.2.2.2.2.2.2.2.2.2.2.2.2.2.2.2.2.2.2.2.2.2.2.1 bt102.2.2.2.2.2.2.2.2.2.2.2.2.2.2.2.2.2.2.2.2.2.2.2.2.1 bt102.2.2.2.2.2.2.2.2.2.2.2.2.2.2.2.2.2.2.2.2.2.2.2.2.2.1 bt102.2.2.2.2.2.2.2.2.2.2.2.2.2.2.2.2.2.2.2.2.2.2.2.2.2.2.1 bt102.2.2.2.2.2.2.2.2.2.2.2.2.2.2.2.2.2.2.2.2.2.2.2.2.2.2.2).bind fun t132 => ((impl_Before.f k bt102.2.2.2.2.2.2.2.2.2.2.2.2.2.2.1 bt102.2.2.2.2.2.2.2.2.2.2.2.2.2.2.2.1 bt102.2.2.2.2.2.2.2.2.2.2.2.2.2.2.2.2.1 bt102.2.2.2.2.2.2.2.2.2.2.2.2.2.2.2.2.2.1 bt102.2.2.2.2.2.2.2.2.2.2.2.2.2.2.2.2.2.2.1 bt102.2.2.2.2.2.2.2.2.2.2.2.2.2.2.2.2.2.2.2.1 bt102.2.2.2.2.2.2.2.2.2.2.2.2.2.2.2.2.2.2.2.2.1 bt102.2.2.2.2.2.2.2.2.2.2.2.2.2.2.2.2.2.2.2.2.2.1 bt102.2.2.2.2.2.2.2.2.2.2.2.2.2.2.2.2.2.2.2.2.2.2.1 bt102.2.2.2.2.2.2.2.2.2.2.2.2.2.2.2.2.2.2.2.2.2.2.2.1 bt102.2.2.2.2.2.2.2.2.2.2.2.2.2.2.2.2.2.2.2.2.2.2.2.2.1 bt102.2.2.2.2.2.2.2.2.2.2.2.2.2.2.2.2.2.2.2.2.2.2.2.2.2.1 bt102.2.2.2.2.2.2.2.2.2.2.2.2.2.2.2.2.2.2.2.2.2.2.2.2.2.2.1 bt102.2.2.2.2.2.2.2.2.2.2.2.2.2.2.2.2.2.2.2.2.2.2.2.2.2.2.2 bt102.1 bt102.2.1 bt102.2.2.1 bt102.2.2.2.1 bt102.2.2.2.2.1 bt102.2.2.2.2.2.1 bt102.2.2.2.2.2.2.1 bt102.2.2.2.2.2.2.2.1 bt102.2.2.2.2.2.2.2.2.1 bt102.2.2.2.2.2.2.2.2.2.1 bt102.2.2.2.2.2.2.2.2.2.2.1 bt102.2.2.2.2.2.2.2.2.2.2.2.1 bt102.2.2.2.2.2.2.2.2.2.2.2.2.1 bt102.2.2.2.2.2.2.2.2.2.2.2.2.2.1).bind fun t133 => (laws_FnBefore.j0 k l0 t132 t133 bt102.1 bt102.2.1 bt102.2.2.1 bt102.2.2.2.1 bt102.2.2.2.2.1 bt102.2.2.2.2.2.1 bt102.2.2.2.2.2.2.1 bt102.2.2.2.2.2.2.2.1 bt102.2.2.2.2.2.2.2.2.1 bt102.2.2.2.2.2.2.2.2.2.1 bt102.2.2.2.2.2.2.2.2.2.2.1 bt102.2.2.2.2.2.2.2.2.2.2.2.1 bt102.2.2.2.2.2.2.2.2.2.2.2.2.1 bt102.2.2.2.2.2.2.2.2.2.2.2.2.2.1 bt102.2.2.2.2.2.2.2.2.2.2.2.2.2.2.1 bt102.2.2.2.2.2.2.2.2.2.2.2.2.2.2.2.1 bt102.2.2.2.2.2.2.2.2.2.2.2.2.2.2.2.2.1 bt102.2.2.2.2.2.2.2.2.2.2.2.2.2.2.2.2.2.1 bt102.2.2.2.2.2.2.2.2.2.2.2.2.2.2.2.2.2.2.1 bt102.2.2.2.2.2.2.2.2.2.2.2.2.2.2.2.2.2.2.2.1 bt102.2.2.2.2.2.2.2.2.2.2.2.2.2.2.2.2.2.2.2.2.1 bt102.2.2.2.2.2.2.2.2.2.2.2.2.2.2.2.2.2.2.2.2.2.1 bt102.2.2.2.2.2.2.2.2.2.2.2.2.2.2.2.2.2.2.2.2.2.2.1 bt102.2.2.2.2.2.2.2.2.2.2.2.2.2.2.2.2.2.2.2.2.2.2.2.1 bt102.2.2.2.2.2.2.2.2.2.2.2.2.2.2.2.2.2.2.2.2.2.2.2.2.1 bt102.2.2.2.2.2.2.2.2.2.2.2.2.2.2.2.2.2.2.2.2.2.2.2.2.2.1 bt102.2.2.2.2.2.2.2.2.2.2.2.2.2.2.2.2.2.2.2.2.2.2.2.2.2.2.1 bt102.2.2.2.2.2.2.2.2.2.2.2.2.2.2.2.2.2.2.2.2.2.2.2.2.2.2.2)))) = some r := by rw [if_neg (show ¬ (false = true) by decide)] at H; exact H
  clear H
  have H := H1
  clear H1
  replace H := Option.bind_eq_some_iff.mp H
  obtain ⟨⟨t102, t103, t104, t105, t106, t107, t108, t109, t110, t111, t112, t113, t114, t115, t116, t117, t118, t119, t120, t121, t122, t123, t124, t125, t126, t127, t128, t129⟩, A40, H⟩ := H
  replace H : ((impl_Before.f k t102 t103 t104 t105 t106 t107 t108 t109 t110 t111 t112 t113 t114 t115 t116 t117 t118 t119 t120 t121 t122 t123 t124 t125 t126 t127 t128 t129).bind fun t132 => ((impl_Before.f k t116 t117 t118 t119 t120 t121 t122 t123 t124 t125 t126 t127 t128 t129 t102 t103 t104 t105 t106 t107 t108 t109 t110 t111 t112 t113 t114 t115).bind fun t133 => (laws_FnBefore.j0 k l0 t132 t133 t102 t103 t104 t105 t106 t107 t108 t109 t110 t111 t112 t113 t114 t115 t116 t117 t118 t119 t120 t121 t122 t123 t124 t125 t126 t127 t128 t129))) = some r := H
  have A4 := Aside0.mk A40
  clear A40
  have HC5 := Aside0.mk H
  clear H
  go_enter Try.func6, Try.ntmps6
  go_upto_region 4 with (first | ((with_reducible refine gate_callee (f := 12) rfl ?_); refine gL (some 10) Try.func12 #[.slice A0 l0.length c0] ?_; (with_reducible refine (laws_big.calls _ _ l0 false _ ?side1 ?side2 A2.out).mono ?_); (case side1 => repeat (first | exact HR0.out | (with_reducible refine Kd.C_alloc ?_ _) | (with_reducible refine Kd.C_drewN ?_ _) | (with_reducible refine Kd.C_drew ?_))); (case side2 => exact HC0.out); rintro e w' ⟨rfl, ⟨nd, rfl⟩⟩; refine ⟨_, rfl, ?_⟩) | ((with_reducible refine gate_callee (f := 30) rfl ?_); refine gL (some 13) Try.func30 #[.slice A0 l0.length c0] ?_; (with_reducible refine (spec_DrawBefore.calls k _ _ l0 t102 t103 t104 t105 t106 t107 t108 t109 t110 t111 t112 t113 t114 t115 t116 t117 t118 t119 t120 t121 t122 t123 t124 t125 t126 t127 t128 t129 _ ?side1 ?side2 A4.out).mono ?_); (case side1 => repeat (first | exact HR0.out | (with_reducible refine Kd.C_alloc ?_ _) | (with_reducible refine Kd.C_drewN ?_ _) | (with_reducible refine Kd.C_drew ?_))); (case side2 => exact HC0.out); rintro e w6 ⟨rfl, hb⟩; refine ⟨_, rfl, ?_⟩; have n0_ := aM (below_step (bq HB) hb); clear HB; have HB := n0_; clear n0_; (try clear hb); (try clear hb2); (try clear hk); (try clear hi)) | ((with_reducible refine gate_dst (N := 3) rfl ?_); refine box_event ?hg (N := 3) ?hd (cs := tk14 0 0 0 0 false 0 0 0 0 0 0 0 0 0) (t := 27) ?hr ?_; (case hd => rfl); (case hg => rfl); (case hr => first | (go_simp; done) | (go_simp; rfl)); intro gb130 hg w7 hbox hb; have n0_ := aM (below_step (bq HB) hb); have n1_ := aM (hbox); have n2_ := aM ((by rw [hg]; exact (below_size (bq HB)) : w.heap.size ≤ gb130)); have n3_ := n2_; clear HB; have HB := n0_; have BK130 := n1_; have GW130 := n2_; have GE130 := n3_; clear n0_ n1_ n2_ n3_; clear hb hbox hg) | ((with_reducible refine gate_dst (N := 4) rfl ?_); refine box_event ?hg (N := 4) ?hd (cs := tk14 0 0 0 0 false 0 0 0 0 0 0 0 0 0) (t := 27) ?hr ?_; (case hd => rfl); (case hg => rfl); (case hr => first | (go_simp; done) | (go_simp; rfl)); intro gb131 hg w8 hbox hb; have n0_ := aM (blk_below (kq BK130) hb); have n1_ := aM (below_step (bq HB) hb); have n2_ := aM (hbox); have n3_ := aM ((by rw [hg]; exact (below_size (bq HB)) : w.heap.size ≤ gb131)); have n4_ := n3_; have n5_ := aM ((by rw [hg]; exact Nat.ne_of_lt (blk_lt (kq BK130)) : gb130 ≠ gb131)); have n6_ := aM (n5_.out.symm); clear BK130 HB; have BK130 := n0_; have HB := n1_; have BK131 := n2_; have GW131 := n3_; have GE131 := n4_; have NB130_131 := n5_; have NB131_130 := n6_; clear n0_ n1_ n2_ n3_ n4_ n5_ n6_; clear hb hbox hg; have hnb9 := NB130_131.out; have hnc9 := NB131_130.out; obtain ⟨_,_,_,_,_,_,_,_,_,_,_,_,_,_⟩ := cz14 BK130.out; have hfz10_0 := blk_frozen BK130.out; obtain ⟨_,_,_,_,_,_,_,_,_,_,_,_,_,_⟩ := cz14 BK131.out; have hfz11_0 := blk_frozen BK131.out))
  (try simp only [Act.put, tA, tB, tC])
  go_cut [5, 6] (fun v5 v6 wc => ∃ (kq : Nat) (x5_4 : Bool) (x6_4 : Bool), v5 = .bool x5_4 ∧ v6 = .bool x6_4 ∧ Aside0 (laws_FnBefore.j0 kq l0 x5_4 x6_4 t102 t103 t104 t105 t106 t107 t108 t109 t110 t111 t112 t113 t114 t115 t116 t117 t118 t119 t120 t121 t122 t123 t124 t125 t126 t127 t128 t129 = some r) ∧ Aside0 (kq ≤ k) ∧ Aside0 (wc.heap[gb130]? = some (.cells #[.int .i64 t102, .int .i64 t103, .int .i64 t104, .int .i64 t105, .bool t106, .int .i64 t107, .int .i64 t108, .int .i64 t109, .int .i64 t110, .int .i64 t111, .int .i64 t112, .int .i64 t113, .int .i64 t114, .int .i64 t115] 27 (0, 0))) ∧ Aside0 (wc.heap[gb131]? = some (.cells #[.int .i64 t116, .int .i64 t117, .int .i64 t118, .int .i64 t119, .bool t120, .int .i64 t121, .int .i64 t122, .int .i64 t123, .int .i64 t124, .int .i64 t125, .int .i64 t126, .int .i64 t127, .int .i64 t128, .int .i64 t129] 27 (0, 0))) ∧ Aside0 (Below w.heap.size w wc))
  case first =>
    refine @id ?T1 ?_
    let rec ax1 : ?T1 := by
      clear ax1
      have H := HC5.out
      clear HC5
      replace H := Option.bind_eq_some_iff.mp H
      obtain ⟨t132, A120, H⟩ := H
      replace H : ((impl_Before.f k t116 t117 t118 t119 t120 t121 t122 t123 t124 t125 t126 t127 t128 t129 t102 t103 t104 t105 t106 t107 t108 t109 t110 t111 t112 t113 t114 t115).bind fun t133 => (laws_FnBefore.j0 k l0 t132 t133 t102 t103 t104 t105 t106 t107 t108 t109 t110 t111 t112 t113 t114 t115 t116 t117 t118 t119 t120 t121 t122 t123 t124 t125 t126 t127 t128 t129)) = some r := H
      have A12 := Aside0.mk A120
      clear A120
      replace H := Option.bind_eq_some_iff.mp H
      obtain ⟨t133, A130, H⟩ := H
      replace H : (laws_FnBefore.j0 k l0 t132 t133 t102 t103 t104 t105 t106 t107 t108 t109 t110 t111 t112 t113 t114 t115 t116 t117 t118 t119 t120 t121 t122 t123 t124 t125 t126 t127 t128 t129) = some r := H
      have A13 := Aside0.mk A130
      clear A130
      have H' := Aside0.mk H
      clear H
      try go_wp2
      have n0_ : Aside0 (((((((((((((((((((((((((((((w8.setCell ⟨gb130, 0, none⟩ (.int .i64 t102)).setCell ⟨gb130, 1, none⟩ (.int .i64 t103)).setCell ⟨gb130, 2, none⟩ (.int .i64 t104)).setCell ⟨gb130, 3, none⟩ (.int .i64 t105)).setCell ⟨gb130, 4, none⟩ (.bool t106)).setCell ⟨gb130, 5, none⟩ (.int .i64 t107)).setCell ⟨gb130, 6, none⟩ (.int .i64 t108)).setCell ⟨gb130, 7, none⟩ (.int .i64 t109)).setCell ⟨gb130, 8, none⟩ (.int .i64 t110)).setCell ⟨gb130, 9, none⟩ (.int .i64 t111)).setCell ⟨gb130, 10, none⟩ (.int .i64 t112)).setCell ⟨gb130, 11, none⟩ (.int .i64 t113)).setCell ⟨gb130, 12, none⟩ (.int .i64 t114)).setCell ⟨gb130, 13, none⟩ (.int .i64 t115)).setCell ⟨gb131, 0, none⟩ (.int .i64 t116)).setCell ⟨gb131, 1, none⟩ (.int .i64 t117)).setCell ⟨gb131, 2, none⟩ (.int .i64 t118)).setCell ⟨gb131, 3, none⟩ (.int .i64 t119)).setCell ⟨gb131, 4, none⟩ (.bool t120)).setCell ⟨gb131, 5, none⟩ (.int .i64 t121)).setCell ⟨gb131, 6, none⟩ (.int .i64 t122)).setCell ⟨gb131, 7, none⟩ (.int .i64 t123)).setCell ⟨gb131, 8, none⟩ (.int .i64 t124)).setCell ⟨gb131, 9, none⟩ (.int .i64 t125)).setCell ⟨gb131, 10, none⟩ (.int .i64 t126)).setCell ⟨gb131, 11, none⟩ (.int .i64 t127)).setCell ⟨gb131, 12, none⟩ (.int .i64 t128)).setCell ⟨gb131, 13, none⟩ (.int .i64 t129)).heap[gb130]? = some (.cells #[.int .i64 t102, .int .i64 t103, .int .i64 t104, .int .i64 t105, .bool t106, .int .i64 t107, .int .i64 t108, .int .i64 t109, .int .i64 t110, .int .i64 t111, .int .i64 t112, .int .i64 t113, .int .i64 t114, .int .i64 t115] 27 (0, 0))) := ⟨by refine far14 ?_ NB130_131.out; refine put14 (cs := tk14 0 0 0 0 false 0 0 0 0 0 0 0 0 0) ?_; (with_reducible repeat (first | apply bkD | apply bkd | apply bkA)); exact BK130.out⟩
      have n1_ : Aside0 (((((((((((((((((((((((((((((w8.setCell ⟨gb130, 0, none⟩ (.int .i64 t102)).setCell ⟨gb130, 1, none⟩ (.int .i64 t103)).setCell ⟨gb130, 2, none⟩ (.int .i64 t104)).setCell ⟨gb130, 3, none⟩ (.int .i64 t105)).setCell ⟨gb130, 4, none⟩ (.bool t106)).setCell ⟨gb130, 5, none⟩ (.int .i64 t107)).setCell ⟨gb130, 6, none⟩ (.int .i64 t108)).setCell ⟨gb130, 7, none⟩ (.int .i64 t109)).setCell ⟨gb130, 8, none⟩ (.int .i64 t110)).setCell ⟨gb130, 9, none⟩ (.int .i64 t111)).setCell ⟨gb130, 10, none⟩ (.int .i64 t112)).setCell ⟨gb130, 11, none⟩ (.int .i64 t113)).setCell ⟨gb130, 12, none⟩ (.int .i64 t114)).setCell ⟨gb130, 13, none⟩ (.int .i64 t115)).setCell ⟨gb131, 0, none⟩ (.int .i64 t116)).setCell ⟨gb131, 1, none⟩ (.int .i64 t117)).setCell ⟨gb131, 2, none⟩ (.int .i64 t118)).setCell ⟨gb131, 3, none⟩ (.int .i64 t119)).setCell ⟨gb131, 4, none⟩ (.bool t120)).setCell ⟨gb131, 5, none⟩ (.int .i64 t121)).setCell ⟨gb131, 6, none⟩ (.int .i64 t122)).setCell ⟨gb131, 7, none⟩ (.int .i64 t123)).setCell ⟨gb131, 8, none⟩ (.int .i64 t124)).setCell ⟨gb131, 9, none⟩ (.int .i64 t125)).setCell ⟨gb131, 10, none⟩ (.int .i64 t126)).setCell ⟨gb131, 11, none⟩ (.int .i64 t127)).setCell ⟨gb131, 12, none⟩ (.int .i64 t128)).setCell ⟨gb131, 13, none⟩ (.int .i64 t129)).heap[gb131]? = some (.cells #[.int .i64 t116, .int .i64 t117, .int .i64 t118, .int .i64 t119, .bool t120, .int .i64 t121, .int .i64 t122, .int .i64 t123, .int .i64 t124, .int .i64 t125, .int .i64 t126, .int .i64 t127, .int .i64 t128, .int .i64 t129] 27 (0, 0))) := ⟨by refine put14 (cs := tk14 0 0 0 0 false 0 0 0 0 0 0 0 0 0) ?_; refine far14 ?_ NB131_130.out; (with_reducible repeat (first | apply bkD | apply bkd | apply bkA)); exact BK131.out⟩
      have n2_ : Aside0 (Below w.heap.size w ((((((((((((((((((((((((((((w8.setCell ⟨gb130, 0, none⟩ (.int .i64 t102)).setCell ⟨gb130, 1, none⟩ (.int .i64 t103)).setCell ⟨gb130, 2, none⟩ (.int .i64 t104)).setCell ⟨gb130, 3, none⟩ (.int .i64 t105)).setCell ⟨gb130, 4, none⟩ (.bool t106)).setCell ⟨gb130, 5, none⟩ (.int .i64 t107)).setCell ⟨gb130, 6, none⟩ (.int .i64 t108)).setCell ⟨gb130, 7, none⟩ (.int .i64 t109)).setCell ⟨gb130, 8, none⟩ (.int .i64 t110)).setCell ⟨gb130, 9, none⟩ (.int .i64 t111)).setCell ⟨gb130, 10, none⟩ (.int .i64 t112)).setCell ⟨gb130, 11, none⟩ (.int .i64 t113)).setCell ⟨gb130, 12, none⟩ (.int .i64 t114)).setCell ⟨gb130, 13, none⟩ (.int .i64 t115)).setCell ⟨gb131, 0, none⟩ (.int .i64 t116)).setCell ⟨gb131, 1, none⟩ (.int .i64 t117)).setCell ⟨gb131, 2, none⟩ (.int .i64 t118)).setCell ⟨gb131, 3, none⟩ (.int .i64 t119)).setCell ⟨gb131, 4, none⟩ (.bool t120)).setCell ⟨gb131, 5, none⟩ (.int .i64 t121)).setCell ⟨gb131, 6, none⟩ (.int .i64 t122)).setCell ⟨gb131, 7, none⟩ (.int .i64 t123)).setCell ⟨gb131, 8, none⟩ (.int .i64 t124)).setCell ⟨gb131, 9, none⟩ (.int .i64 t125)).setCell ⟨gb131, 10, none⟩ (.int .i64 t126)).setCell ⟨gb131, 11, none⟩ (.int .i64 t127)).setCell ⟨gb131, 12, none⟩ (.int .i64 t128)).setCell ⟨gb131, 13, none⟩ (.int .i64 t129))) := ⟨bq HB⟩
      (try clear BK130)
      (try clear BK131)
      (try clear HB)
      generalize ((((((((((((((((((((((((((((w8.setCell ⟨gb130, 0, none⟩ (.int .i64 t102)).setCell ⟨gb130, 1, none⟩ (.int .i64 t103)).setCell ⟨gb130, 2, none⟩ (.int .i64 t104)).setCell ⟨gb130, 3, none⟩ (.int .i64 t105)).setCell ⟨gb130, 4, none⟩ (.bool t106)).setCell ⟨gb130, 5, none⟩ (.int .i64 t107)).setCell ⟨gb130, 6, none⟩ (.int .i64 t108)).setCell ⟨gb130, 7, none⟩ (.int .i64 t109)).setCell ⟨gb130, 8, none⟩ (.int .i64 t110)).setCell ⟨gb130, 9, none⟩ (.int .i64 t111)).setCell ⟨gb130, 10, none⟩ (.int .i64 t112)).setCell ⟨gb130, 11, none⟩ (.int .i64 t113)).setCell ⟨gb130, 12, none⟩ (.int .i64 t114)).setCell ⟨gb130, 13, none⟩ (.int .i64 t115)).setCell ⟨gb131, 0, none⟩ (.int .i64 t116)).setCell ⟨gb131, 1, none⟩ (.int .i64 t117)).setCell ⟨gb131, 2, none⟩ (.int .i64 t118)).setCell ⟨gb131, 3, none⟩ (.int .i64 t119)).setCell ⟨gb131, 4, none⟩ (.bool t120)).setCell ⟨gb131, 5, none⟩ (.int .i64 t121)).setCell ⟨gb131, 6, none⟩ (.int .i64 t122)).setCell ⟨gb131, 7, none⟩ (.int .i64 t123)).setCell ⟨gb131, 8, none⟩ (.int .i64 t124)).setCell ⟨gb131, 9, none⟩ (.int .i64 t125)).setCell ⟨gb131, 10, none⟩ (.int .i64 t126)).setCell ⟨gb131, 11, none⟩ (.int .i64 t127)).setCell ⟨gb131, 12, none⟩ (.int .i64 t128)).setCell ⟨gb131, 13, none⟩ (.int .i64 t129)) = w14 at n0_ n1_ n2_ ⊢
      have BK130 := n0_
      have BK131 := n1_
      have HB := n2_
      clear n0_ n1_ n2_
      have n0_ := aM (blk_drew BK130.out)
      have n1_ := aM (blk_drew BK131.out)
      have n2_ := aM (below_drew1 HB.out)
      clear BK130 BK131 HB
      have BK130 := n0_
      have BK131 := n1_
      have HB := n2_
      clear n0_ n1_ n2_
      refine start_ (n := 8) (S := fun w' => cb14t w' gb130 (.int .i64 t102) (.int .i64 t103) (.int .i64 t104) (.int .i64 t105) (.bool t106) (.int .i64 t107) (.int .i64 t108) (.int .i64 t109) (.int .i64 t110) (.int .i64 t111) (.int .i64 t112) (.int .i64 t113) (.int .i64 t114) (.int .i64 t115) (cb14 w' gb131 (.int .i64 t116) (.int .i64 t117) (.int .i64 t118) (.int .i64 t119) (.bool t120) (.int .i64 t121) (.int .i64 t122) (.int .i64 t123) (.int .i64 t124) (.int .i64 t125) (.int .i64 t126) (.int .i64 t127) (.int .i64 t128) (.int .i64 t129))) (ds := []) #[nn,nn,nn,nn,nn,nn,nn,nn] (by kernel_rfl) rfl rfl ⟨(blk_cell BK130.out 0).trans rfl, (blk_cell BK130.out 1).trans rfl, (blk_cell BK130.out 2).trans rfl, (blk_cell BK130.out 3).trans rfl, (blk_cell BK130.out 4).trans rfl, (blk_cell BK130.out 5).trans rfl, (blk_cell BK130.out 6).trans rfl, (blk_cell BK130.out 7).trans rfl, (blk_cell BK130.out 8).trans rfl, (blk_cell BK130.out 9).trans rfl, (blk_cell BK130.out 10).trans rfl, (blk_cell BK130.out 11).trans rfl, (blk_cell BK130.out 12).trans rfl, (blk_cell BK130.out 13).trans rfl, (blk_cell BK131.out 0).trans rfl, (blk_cell BK131.out 1).trans rfl, (blk_cell BK131.out 2).trans rfl, (blk_cell BK131.out 3).trans rfl, (blk_cell BK131.out 4).trans rfl, (blk_cell BK131.out 5).trans rfl, (blk_cell BK131.out 6).trans rfl, (blk_cell BK131.out 7).trans rfl, (blk_cell BK131.out 8).trans rfl, (blk_cell BK131.out 9).trans rfl, (blk_cell BK131.out 10).trans rfl, (blk_cell BK131.out 11).trans rfl, (blk_cell BK131.out 12).trans rfl, (blk_cell BK131.out 13).trans rfl⟩ (fun hHeld => ?_); refine with_tabW laws_FnBefore.tab4 laws_FnBefore.bits4 (fun HT_ HW_ => ?_)
      generalize w14.drew = w15 at BK130 BK131 HB hHeld ⊢
      refine tQ (i := 0) (N := some 16) #[yy,nn,nn,nn,nn,nn,nn,nn] (take_ofW HT_.out HW_.out (by kernel_rfl)) hHeld ?_
      refine tQ (i := 1) (N := some 17) #[yy,yy,nn,nn,nn,nn,nn,nn] (take_ofW HT_.out HW_.out (by kernel_rfl)) hHeld ?_
      refine tQ (i := 3) (N := some 19) #[yy,yy,nn,yy,nn,nn,nn,nn] (take_ofW HT_.out HW_.out (by kernel_rfl)) hHeld ?_
      refine tQ (i := 4) (N := some 20) #[yy,yy,nn,yy,yy,nn,nn,nn] (take_ofW HT_.out HW_.out (by kernel_rfl)) hHeld ?_
      refine one_ (i := 2) (N := some 18) #[yy,yy,yy,yy,yy,nn,nn,nn] rfl rfl (one_of HT_.out (by kernel_rfl)) (by decide) (fun K hK => ?_)
      refine goes_ Try.func31 (by kernel_rfl) rfl #[.agg #[.int .i64 t102, .int .i64 t103, .int .i64 t104, .int .i64 t105, .bool t106, .int .i64 t107, .int .i64 t108, .int .i64 t109, .int .i64 t110, .int .i64 t111, .int .i64 t112, .int .i64 t113, .int .i64 t114, .int .i64 t115], .agg #[.int .i64 t116, .int .i64 t117, .int .i64 t118, .int .i64 t119, .bool t120, .int .i64 t121, .int .i64 t122, .int .i64 t123, .int .i64 t124, .int .i64 t125, .int .i64 t126, .int .i64 t127, .int .i64 t128, .int .i64 t129]] (by rfl) rfl rfl (by (try simp only [List.map_toArray, List.map_cons, List.map_nil]); first | done | rfl | (simp only [List.length_drop, List.length_take]; rfl)) ?_
      with_reducible refine (impl_Before.calls k t102 t103 t104 t105 t106 t107 t108 t109 t110 t111 t112 t113 t114 t115 t116 t117 t118 t119 t120 t121 t122 t123 t124 t125 t126 t127 t128 t129 t132 _ A12.out).mono ?_
      rintro e w16 ⟨rfl, hb⟩
      refine ⟨_, rfl, ?_⟩
      have n0_ := aM (blk_below (kq BK130) hb)
      have n1_ := aM (blk_below (kq BK131) hb)
      have n2_ := aM (below_step (bq HB) hb)
      clear BK130 BK131 HB
      have BK130 := n0_
      have BK131 := n1_
      have HB := n2_
      clear n0_ n1_ n2_
      (try clear hb)
      (try clear hb2)
      (try clear hk)
      (try clear hi)
      refine hK.out _ _ ⟨(blk_cell BK130.out 0).trans rfl, (blk_cell BK130.out 1).trans rfl, (blk_cell BK130.out 2).trans rfl, (blk_cell BK130.out 3).trans rfl, (blk_cell BK130.out 4).trans rfl, (blk_cell BK130.out 5).trans rfl, (blk_cell BK130.out 6).trans rfl, (blk_cell BK130.out 7).trans rfl, (blk_cell BK130.out 8).trans rfl, (blk_cell BK130.out 9).trans rfl, (blk_cell BK130.out 10).trans rfl, (blk_cell BK130.out 11).trans rfl, (blk_cell BK130.out 12).trans rfl, (blk_cell BK130.out 13).trans rfl, (blk_cell BK131.out 0).trans rfl, (blk_cell BK131.out 1).trans rfl, (blk_cell BK131.out 2).trans rfl, (blk_cell BK131.out 3).trans rfl, (blk_cell BK131.out 4).trans rfl, (blk_cell BK131.out 5).trans rfl, (blk_cell BK131.out 6).trans rfl, (blk_cell BK131.out 7).trans rfl, (blk_cell BK131.out 8).trans rfl, (blk_cell BK131.out 9).trans rfl, (blk_cell BK131.out 10).trans rfl, (blk_cell BK131.out 11).trans rfl, (blk_cell BK131.out 12).trans rfl, (blk_cell BK131.out 13).trans rfl⟩ (fun hHeld => ?_)
      clear hK K
      refine nQ (N := some 18) ?_
      refine one_ (i := 5) (N := some 21) #[yy,yy,yy,yy,yy,yy,nn,nn] rfl rfl (one_of HT_.out (by kernel_rfl)) (by decide) (fun K hK => ?_)
      refine goes_ Try.func31 (by kernel_rfl) rfl #[.agg #[.int .i64 t116, .int .i64 t117, .int .i64 t118, .int .i64 t119, .bool t120, .int .i64 t121, .int .i64 t122, .int .i64 t123, .int .i64 t124, .int .i64 t125, .int .i64 t126, .int .i64 t127, .int .i64 t128, .int .i64 t129], .agg #[.int .i64 t102, .int .i64 t103, .int .i64 t104, .int .i64 t105, .bool t106, .int .i64 t107, .int .i64 t108, .int .i64 t109, .int .i64 t110, .int .i64 t111, .int .i64 t112, .int .i64 t113, .int .i64 t114, .int .i64 t115]] (by rfl) rfl rfl (by (try simp only [List.map_toArray, List.map_cons, List.map_nil]); first | done | rfl | (simp only [List.length_drop, List.length_take]; rfl)) ?_
      with_reducible refine (impl_Before.calls k t116 t117 t118 t119 t120 t121 t122 t123 t124 t125 t126 t127 t128 t129 t102 t103 t104 t105 t106 t107 t108 t109 t110 t111 t112 t113 t114 t115 t133 _ A13.out).mono ?_
      rintro e w17 ⟨rfl, hb⟩
      refine ⟨_, rfl, ?_⟩
      have n0_ := aM (blk_below (kq BK130) hb)
      have n1_ := aM (blk_below (kq BK131) hb)
      have n2_ := aM (below_step (bq HB) hb)
      clear BK130 BK131 HB
      have BK130 := n0_
      have BK131 := n1_
      have HB := n2_
      clear n0_ n1_ n2_
      (try clear hb)
      (try clear hb2)
      (try clear hk)
      (try clear hi)
      refine hK.out _ _ ⟨(blk_cell BK130.out 0).trans rfl, (blk_cell BK130.out 1).trans rfl, (blk_cell BK130.out 2).trans rfl, (blk_cell BK130.out 3).trans rfl, (blk_cell BK130.out 4).trans rfl, (blk_cell BK130.out 5).trans rfl, (blk_cell BK130.out 6).trans rfl, (blk_cell BK130.out 7).trans rfl, (blk_cell BK130.out 8).trans rfl, (blk_cell BK130.out 9).trans rfl, (blk_cell BK130.out 10).trans rfl, (blk_cell BK130.out 11).trans rfl, (blk_cell BK130.out 12).trans rfl, (blk_cell BK130.out 13).trans rfl, (blk_cell BK131.out 0).trans rfl, (blk_cell BK131.out 1).trans rfl, (blk_cell BK131.out 2).trans rfl, (blk_cell BK131.out 3).trans rfl, (blk_cell BK131.out 4).trans rfl, (blk_cell BK131.out 5).trans rfl, (blk_cell BK131.out 6).trans rfl, (blk_cell BK131.out 7).trans rfl, (blk_cell BK131.out 8).trans rfl, (blk_cell BK131.out 9).trans rfl, (blk_cell BK131.out 10).trans rfl, (blk_cell BK131.out 11).trans rfl, (blk_cell BK131.out 12).trans rfl, (blk_cell BK131.out 13).trans rfl⟩ (fun hHeld => ?_)
      clear hK K
      refine nQ (N := some 21) ?_
      refine pQ (i := 6) (N := some 5) #[yy,yy,yy,yy,yy,yy,yy,nn] (any_of HT_.out (by kernel_rfl)) ?_
      refine pQ (i := 7) (N := some 6) #[yy,yy,yy,yy,yy,yy,yy,yy] (any_of HT_.out (by kernel_rfl)) ?_
      refine done_ (done_of HT_.out (by kernel_rfl)) ?_
      try go_wp2
      go_meet
      case rel => exact ⟨_, (t132), (t133), (by first | rfl | (simp; done) | (simp [*]; done)), (by first | rfl | (simp; done) | (simp [*]; done)), H', ⟨by first | omega | exact Nat.le_refl _⟩, ⟨by (with_reducible repeat (first | apply bkD | apply bkd | apply bkA)); exact BK130.out⟩, ⟨by (with_reducible repeat (first | apply bkD | apply bkd | apply bkA)); exact BK131.out⟩, ⟨bq HB⟩⟩
    exact ax1
  case rest =>
    refine @id ?T2 ?_
    let rec ax2 : ?T2 := by
      clear ax2
      clear HC5
      try clear c1
      try clear p2
      try clear c3
      try clear c6
      try clear c9
      try clear c12
      try clear hfz10_0
      try clear hfz11_0
      obtain ⟨kq, x5_4, x6_4, rfl, rfl, HA, HJ4, BK130, BK131, HB⟩ := hcut
      cases kq with
      | zero => exact absurd HA.out (by simp [laws_FnBefore.j0])
      | succ kj4 =>
        have H := HA.out
        clear HA
        simp only [laws_FnBefore.j0] at H
        have HC18 := Aside0.mk H
        clear H
        go_upto_region 5 with (fail)
        go_cut [37] (fun v37 wc => ∃ (kq : Nat) (x37_17 : Bool), v37 = .bool x37_17 ∧ Aside0 (laws_FnBefore.j1 kq l0 x5_4 x6_4 x37_17 t102 t103 t104 t105 t106 t107 t108 t109 t110 t111 t112 t113 t114 t115 t116 t117 t118 t119 t120 t121 t122 t123 t124 t125 t126 t127 t128 t129 = some r) ∧ Aside0 (kq ≤ kj4) ∧ Aside0 (wc.heap[gb130]? = some (.cells #[.int .i64 t102, .int .i64 t103, .int .i64 t104, .int .i64 t105, .bool t106, .int .i64 t107, .int .i64 t108, .int .i64 t109, .int .i64 t110, .int .i64 t111, .int .i64 t112, .int .i64 t113, .int .i64 t114, .int .i64 t115] 27 (0, 0))) ∧ Aside0 (wc.heap[gb131]? = some (.cells #[.int .i64 t116, .int .i64 t117, .int .i64 t118, .int .i64 t119, .bool t120, .int .i64 t121, .int .i64 t122, .int .i64 t123, .int .i64 t124, .int .i64 t125, .int .i64 t126, .int .i64 t127, .int .i64 t128, .int .i64 t129] 27 (0, 0))) ∧ Aside0 (Below w.heap.size w wc))
        case first =>
          refine @id ?T3 ?_
          let rec ax3 : ?T3 := by
            clear ax3
            have H := HC18.out
            clear HC18
            replace H := Option.bind_eq_some_iff.mp H
            obtain ⟨t134, A190, H⟩ := H
            replace H : (if (x5_4 != t134) = true then (laws_FnBefore.j1 kj4 l0 x5_4 x6_4 true t102 t103 t104 t105 t106 t107 t108 t109 t110 t111 t112 t113 t114 t115 t116 t117 t118 t119 t120 t121 t122 t123 t124 t125 t126 t127 t128 t129) else (if x5_4 = true then (if x6_4 = true then (laws_FnBefore.j1 kj4 l0 x5_4 x6_4 true t102 t103 t104 t105 t106 t107 t108 t109 t110 t111 t112 t113 t114 t115 t116 t117 t118 t119 t120 t121 t122 t123 t124 t125 t126 t127 t128 t129) else ((impl_Before.f kj4 t102 t103 t104 t105 t106 t107 t108 t109 t110 t111 t112 t113 t114 t115 t102 t103 t104 t105 t106 t107 t108 t109 t110 t111 t112 t113 t114 t115).bind fun t135 => (laws_FnBefore.j1 kj4 l0 x5_4 x6_4 t135 t102 t103 t104 t105 t106 t107 t108 t109 t110 t111 t112 t113 t114 t115 t116 t117 t118 t119 t120 t121 t122 t123 t124 t125 t126 t127 t128 t129))) else ((impl_Before.f kj4 t102 t103 t104 t105 t106 t107 t108 t109 t110 t111 t112 t113 t114 t115 t102 t103 t104 t105 t106 t107 t108 t109 t110 t111 t112 t113 t114 t115).bind fun t136 => (laws_FnBefore.j1 kj4 l0 x5_4 x6_4 t136 t102 t103 t104 t105 t106 t107 t108 t109 t110 t111 t112 t113 t114 t115 t116 t117 t118 t119 t120 t121 t122 t123 t124 t125 t126 t127 t128 t129)))) = some r := H
            have A19 := Aside0.mk A190
            clear A190
            by_cases c20 : (x5_4 != t134) = true
            · refine @id ?T4 ?_
              let rec ax4 : ?T4 := by
                clear ax4
                rw [if_pos c20] at H
                have c20b0 : (x5_4 != t134) = true := c20
                (try (have c20b1 : decide (x5_4 = t134) = false := by simpa using c20))
                (try (have c20b2 : (x5_4 == t134) = false := by simpa using c20))
                (try (have c20b3 : ¬ (x5_4 = t134) := by simpa using c20))
                clear c20
                (first | rw [c20b0] | (simp only [i64_w, i32_w]; rw [c20b0]) | skip)
                have H' := Aside0.mk H
                clear H
                have hnb21 := NB130_131.out
                have hnc21 := NB131_130.out
                obtain ⟨_,_,_,_,_,_,_,_,_,_,_,_,_,_⟩ := cz14 BK130.out
                have hfz22_0 := blk_frozen BK130.out
                obtain ⟨_,_,_,_,_,_,_,_,_,_,_,_,_,_⟩ := cz14 BK131.out
                have hfz23_0 := blk_frozen BK131.out
                go_wp2_with (first | ((with_reducible refine gate_callee (f := 32) rfl ?_); refine gL (some 25) Try.func32 #[.agg #[.int .i64 t102, .int .i64 t103, .int .i64 t104, .int .i64 t105, .bool t106, .int .i64 t107, .int .i64 t108, .int .i64 t109, .int .i64 t110, .int .i64 t111, .int .i64 t112, .int .i64 t113, .int .i64 t114, .int .i64 t115], .agg #[.int .i64 t116, .int .i64 t117, .int .i64 t118, .int .i64 t119, .bool t120, .int .i64 t121, .int .i64 t122, .int .i64 t123, .int .i64 t124, .int .i64 t125, .int .i64 t126, .int .i64 t127, .int .i64 t128, .int .i64 t129]] ?_; (with_reducible refine (spec_Before.calls kj4 t102 t103 t104 t105 t106 t107 t108 t109 t110 t111 t112 t113 t114 t115 t116 t117 t118 t119 t120 t121 t122 t123 t124 t125 t126 t127 t128 t129 t134 _ A19.out).mono ?_); rintro e w24 ⟨rfl, hb⟩; refine ⟨_, rfl, ?_⟩; have n0_ := aM (blk_below (kq BK130) hb); have n1_ := aM (blk_below (kq BK131) hb); have n2_ := aM (below_step (bq HB) hb); clear BK130 BK131 HB; have BK130 := n0_; have BK131 := n1_; have HB := n2_; clear n0_ n1_ n2_; (try clear hb); (try clear hb2); (try clear hk); (try clear hi)))
                go_meet
                case rel => exact ⟨_, (true), (by first | rfl | (simp; done) | (simp [*]; done)), H', ⟨by have := HJ4.out; first | omega | exact Nat.le_refl _⟩, ⟨by (with_reducible repeat (first | apply bkD | apply bkd | apply bkA)); exact BK130.out⟩, ⟨by (with_reducible repeat (first | apply bkD | apply bkd | apply bkA)); exact BK131.out⟩, ⟨bq HB⟩⟩
              exact ax4
            rw [if_neg c20] at H
            have c20b0 : (x5_4 != t134) = false := by simpa using c20
            (try (have c20b1 : decide (x5_4 = t134) = true := by simpa using c20))
            (try (have c20b2 : (x5_4 == t134) = true := by simpa using c20))
            clear c20
            (first | rw [c20b0] | (simp only [i64_w, i32_w]; rw [c20b0]) | skip)
            by_cases c25 : x5_4 = true
            · subst c25
              have H1 : (if x6_4 = true then (laws_FnBefore.j1 kj4 l0 true x6_4 true t102 t103 t104 t105 t106 t107 t108 t109 t110 t111 t112 t113 t114 t115 t116 t117 t118 t119 t120 t121 t122 t123 t124 t125 t126 t127 t128 t129) else ((impl_Before.f kj4 t102 t103 t104 t105 t106 t107 t108 t109 t110 t111 t112 t113 t114 t115 t102 t103 t104 t105 t106 t107 t108 t109 t110 t111 t112 t113 t114 t115).bind fun t135 => (laws_FnBefore.j1 kj4 l0 true x6_4 t135 t102 t103 t104 t105 t106 t107 t108 t109 t110 t111 t112 t113 t114 t115 t116 t117 t118 t119 t120 t121 t122 t123 t124 t125 t126 t127 t128 t129))) = some r := by rw [if_pos rfl] at H; exact H
              clear H
              have H := H1
              clear H1
              by_cases c26 : x6_4 = true
              · subst c26
                have H1 : (laws_FnBefore.j1 kj4 l0 true true true t102 t103 t104 t105 t106 t107 t108 t109 t110 t111 t112 t113 t114 t115 t116 t117 t118 t119 t120 t121 t122 t123 t124 t125 t126 t127 t128 t129) = some r := by rw [if_pos rfl] at H; exact H
                clear H
                have H := H1
                clear H1
                have H' := Aside0.mk H
                clear H
                have hnb27 := NB130_131.out
                have hnc27 := NB131_130.out
                obtain ⟨_,_,_,_,_,_,_,_,_,_,_,_,_,_⟩ := cz14 BK130.out
                have hfz28_0 := blk_frozen BK130.out
                obtain ⟨_,_,_,_,_,_,_,_,_,_,_,_,_,_⟩ := cz14 BK131.out
                have hfz29_0 := blk_frozen BK131.out
                go_wp2_with (first | ((with_reducible refine gate_callee (f := 32) rfl ?_); refine gL (some 25) Try.func32 #[.agg #[.int .i64 t102, .int .i64 t103, .int .i64 t104, .int .i64 t105, .bool t106, .int .i64 t107, .int .i64 t108, .int .i64 t109, .int .i64 t110, .int .i64 t111, .int .i64 t112, .int .i64 t113, .int .i64 t114, .int .i64 t115], .agg #[.int .i64 t116, .int .i64 t117, .int .i64 t118, .int .i64 t119, .bool t120, .int .i64 t121, .int .i64 t122, .int .i64 t123, .int .i64 t124, .int .i64 t125, .int .i64 t126, .int .i64 t127, .int .i64 t128, .int .i64 t129]] ?_; (with_reducible refine (spec_Before.calls kj4 t102 t103 t104 t105 t106 t107 t108 t109 t110 t111 t112 t113 t114 t115 t116 t117 t118 t119 t120 t121 t122 t123 t124 t125 t126 t127 t128 t129 t134 _ A19.out).mono ?_); rintro e w30 ⟨rfl, hb⟩; refine ⟨_, rfl, ?_⟩; have n0_ := aM (blk_below (kq BK130) hb); have n1_ := aM (blk_below (kq BK131) hb); have n2_ := aM (below_step (bq HB) hb); clear BK130 BK131 HB; have BK130 := n0_; have BK131 := n1_; have HB := n2_; clear n0_ n1_ n2_; (try clear hb); (try clear hb2); (try clear hk); (try clear hi)))
                go_meet
                case rel => exact ⟨_, (true), (by first | rfl | (simp; done) | (simp [*]; done)), H', ⟨by have := HJ4.out; first | omega | exact Nat.le_refl _⟩, ⟨by (with_reducible repeat (first | apply bkD | apply bkd | apply bkA)); exact BK130.out⟩, ⟨by (with_reducible repeat (first | apply bkD | apply bkd | apply bkA)); exact BK131.out⟩, ⟨bq HB⟩⟩
              replace c26 := Bool.eq_false_iff.mpr c26
              subst c26
              have H1 : ((impl_Before.f kj4 t102 t103 t104 t105 t106 t107 t108 t109 t110 t111 t112 t113 t114 t115 t102 t103 t104 t105 t106 t107 t108 t109 t110 t111 t112 t113 t114 t115).bind fun t135 => (laws_FnBefore.j1 kj4 l0 true false t135 t102 t103 t104 t105 t106 t107 t108 t109 t110 t111 t112 t113 t114 t115 t116 t117 t118 t119 t120 t121 t122 t123 t124 t125 t126 t127 t128 t129)) = some r := by rw [if_neg (show ¬ (false = true) by decide)] at H; exact H
              clear H
              have H := H1
              clear H1
              replace H := Option.bind_eq_some_iff.mp H
              obtain ⟨t135, A310, H⟩ := H
              replace H : (laws_FnBefore.j1 kj4 l0 true false t135 t102 t103 t104 t105 t106 t107 t108 t109 t110 t111 t112 t113 t114 t115 t116 t117 t118 t119 t120 t121 t122 t123 t124 t125 t126 t127 t128 t129) = some r := H
              have A31 := Aside0.mk A310
              clear A310
              have H' := Aside0.mk H
              clear H
              have hnb32 := NB130_131.out
              have hnc32 := NB131_130.out
              obtain ⟨_,_,_,_,_,_,_,_,_,_,_,_,_,_⟩ := cz14 BK130.out
              have hfz33_0 := blk_frozen BK130.out
              obtain ⟨_,_,_,_,_,_,_,_,_,_,_,_,_,_⟩ := cz14 BK131.out
              have hfz34_0 := blk_frozen BK131.out
              go_wp2_with (first | ((with_reducible refine gate_callee (f := 32) rfl ?_); refine gL (some 25) Try.func32 #[.agg #[.int .i64 t102, .int .i64 t103, .int .i64 t104, .int .i64 t105, .bool t106, .int .i64 t107, .int .i64 t108, .int .i64 t109, .int .i64 t110, .int .i64 t111, .int .i64 t112, .int .i64 t113, .int .i64 t114, .int .i64 t115], .agg #[.int .i64 t116, .int .i64 t117, .int .i64 t118, .int .i64 t119, .bool t120, .int .i64 t121, .int .i64 t122, .int .i64 t123, .int .i64 t124, .int .i64 t125, .int .i64 t126, .int .i64 t127, .int .i64 t128, .int .i64 t129]] ?_; (with_reducible refine (spec_Before.calls kj4 t102 t103 t104 t105 t106 t107 t108 t109 t110 t111 t112 t113 t114 t115 t116 t117 t118 t119 t120 t121 t122 t123 t124 t125 t126 t127 t128 t129 t134 _ A19.out).mono ?_); rintro e w35 ⟨rfl, hb⟩; refine ⟨_, rfl, ?_⟩; have n0_ := aM (blk_below (kq BK130) hb); have n1_ := aM (blk_below (kq BK131) hb); have n2_ := aM (below_step (bq HB) hb); clear BK130 BK131 HB; have BK130 := n0_; have BK131 := n1_; have HB := n2_; clear n0_ n1_ n2_; (try clear hb); (try clear hb2); (try clear hk); (try clear hi); obtain ⟨_,_,_,_,_,_,_,_,_,_,_,_,_,_⟩ := cz14 BK130.out; have hfz36_0 := blk_frozen BK130.out) | (go_at_call 31; (with_reducible refine (impl_Before.calls kj4 t102 t103 t104 t105 t106 t107 t108 t109 t110 t111 t112 t113 t114 t115 t102 t103 t104 t105 t106 t107 t108 t109 t110 t111 t112 t113 t114 t115 t135 _ A31.out).mono ?_); rintro e w37 ⟨rfl, hb⟩; have n0_ := aM (blk_below (kq BK130) hb); have n1_ := aM (blk_below (kq BK131) hb); have n2_ := aM (below_step (bq HB) hb); clear BK130 BK131 HB; have BK130 := n0_; have BK131 := n1_; have HB := n2_; clear n0_ n1_ n2_; (try clear hb); (try clear hb2); (try clear hk); (try clear hi)))
              go_meet
              case rel => exact ⟨_, (t135), (by first | rfl | (simp; done) | (simp [*]; done)), H', ⟨by have := HJ4.out; first | omega | exact Nat.le_refl _⟩, ⟨by (with_reducible repeat (first | apply bkD | apply bkd | apply bkA)); exact BK130.out⟩, ⟨by (with_reducible repeat (first | apply bkD | apply bkd | apply bkA)); exact BK131.out⟩, ⟨bq HB⟩⟩
            replace c25 := Bool.eq_false_iff.mpr c25
            subst c25
            have H1 : ((impl_Before.f kj4 t102 t103 t104 t105 t106 t107 t108 t109 t110 t111 t112 t113 t114 t115 t102 t103 t104 t105 t106 t107 t108 t109 t110 t111 t112 t113 t114 t115).bind fun t136 => (laws_FnBefore.j1 kj4 l0 false x6_4 t136 t102 t103 t104 t105 t106 t107 t108 t109 t110 t111 t112 t113 t114 t115 t116 t117 t118 t119 t120 t121 t122 t123 t124 t125 t126 t127 t128 t129)) = some r := by rw [if_neg (show ¬ (false = true) by decide)] at H; exact H
            clear H
            have H := H1
            clear H1
            replace H := Option.bind_eq_some_iff.mp H
            obtain ⟨t136, A380, H⟩ := H
            replace H : (laws_FnBefore.j1 kj4 l0 false x6_4 t136 t102 t103 t104 t105 t106 t107 t108 t109 t110 t111 t112 t113 t114 t115 t116 t117 t118 t119 t120 t121 t122 t123 t124 t125 t126 t127 t128 t129) = some r := H
            have A38 := Aside0.mk A380
            clear A380
            have H' := Aside0.mk H
            clear H
            have hnb39 := NB130_131.out
            have hnc39 := NB131_130.out
            obtain ⟨_,_,_,_,_,_,_,_,_,_,_,_,_,_⟩ := cz14 BK130.out
            have hfz40_0 := blk_frozen BK130.out
            obtain ⟨_,_,_,_,_,_,_,_,_,_,_,_,_,_⟩ := cz14 BK131.out
            have hfz41_0 := blk_frozen BK131.out
            go_wp2_with (first | ((with_reducible refine gate_callee (f := 32) rfl ?_); refine gL (some 25) Try.func32 #[.agg #[.int .i64 t102, .int .i64 t103, .int .i64 t104, .int .i64 t105, .bool t106, .int .i64 t107, .int .i64 t108, .int .i64 t109, .int .i64 t110, .int .i64 t111, .int .i64 t112, .int .i64 t113, .int .i64 t114, .int .i64 t115], .agg #[.int .i64 t116, .int .i64 t117, .int .i64 t118, .int .i64 t119, .bool t120, .int .i64 t121, .int .i64 t122, .int .i64 t123, .int .i64 t124, .int .i64 t125, .int .i64 t126, .int .i64 t127, .int .i64 t128, .int .i64 t129]] ?_; (with_reducible refine (spec_Before.calls kj4 t102 t103 t104 t105 t106 t107 t108 t109 t110 t111 t112 t113 t114 t115 t116 t117 t118 t119 t120 t121 t122 t123 t124 t125 t126 t127 t128 t129 t134 _ A19.out).mono ?_); rintro e w42 ⟨rfl, hb⟩; refine ⟨_, rfl, ?_⟩; have n0_ := aM (blk_below (kq BK130) hb); have n1_ := aM (blk_below (kq BK131) hb); have n2_ := aM (below_step (bq HB) hb); clear BK130 BK131 HB; have BK130 := n0_; have BK131 := n1_; have HB := n2_; clear n0_ n1_ n2_; (try clear hb); (try clear hb2); (try clear hk); (try clear hi); obtain ⟨_,_,_,_,_,_,_,_,_,_,_,_,_,_⟩ := cz14 BK130.out; have hfz43_0 := blk_frozen BK130.out) | (go_at_call 31; (with_reducible refine (impl_Before.calls kj4 t102 t103 t104 t105 t106 t107 t108 t109 t110 t111 t112 t113 t114 t115 t102 t103 t104 t105 t106 t107 t108 t109 t110 t111 t112 t113 t114 t115 t136 _ A38.out).mono ?_); rintro e w44 ⟨rfl, hb⟩; have n0_ := aM (blk_below (kq BK130) hb); have n1_ := aM (blk_below (kq BK131) hb); have n2_ := aM (below_step (bq HB) hb); clear BK130 BK131 HB; have BK130 := n0_; have BK131 := n1_; have HB := n2_; clear n0_ n1_ n2_; (try clear hb); (try clear hb2); (try clear hk); (try clear hi)))
            go_meet
            case rel => exact ⟨_, (t136), (by first | rfl | (simp; done) | (simp [*]; done)), H', ⟨by have := HJ4.out; first | omega | exact Nat.le_refl _⟩, ⟨by (with_reducible repeat (first | apply bkD | apply bkd | apply bkA)); exact BK130.out⟩, ⟨by (with_reducible repeat (first | apply bkD | apply bkd | apply bkA)); exact BK131.out⟩, ⟨bq HB⟩⟩
          exact ax3
        case rest =>
          refine @id ?T5 ?_
          let rec ax5 : ?T5 := by
            clear ax5
            clear HC18
            try clear c1
            try clear c2
            try clear p2
            try clear c3
            try clear c6
            try clear c9
            try clear c12
            try clear c20
            try clear c20b0
            try clear c20b1
            try clear c20b2
            try clear c21
            try clear c25
            try clear c26
            try clear c27
            try clear c30
            try clear c31
            try clear c32
            try clear c39
            try clear hfz10_0
            try clear hfz11_0
            try clear hfz22_0
            try clear hfz23_0
            try clear hfz28_0
            try clear hfz29_0
            try clear hfz33_0
            try clear hfz34_0
            try clear hfz36_0
            try clear hfz40_0
            try clear hfz41_0
            try clear hfz43_0
            try clear p2
            obtain ⟨kq, x37_17, rfl, HA, HJ17, BK130, BK131, HB⟩ := hcut
            cases kq with
            | zero => exact absurd HA.out (by simp [laws_FnBefore.j1])
            | succ kj17 =>
              have H := HA.out
              clear HA
              simp only [laws_FnBefore.j1] at H
              by_cases c45 : x37_17 = true
              · subst c45
                have H1 : (some false) = some r := by rw [if_pos rfl] at H; exact H
                clear H
                have H := H1
                clear H1
                exact absurd ((Option.some.inj H).trans HRT.out) Bool.false_ne_true
              replace c45 := Bool.eq_false_iff.mpr c45
              subst c45
              have H1 : ((spec_TaskOk.f t102 t103 t104 t105 t106 t107 t108 t109 t110 t111 t112 t113 t114 t115).bind fun t137 => (if t137 = true then ((spec_TaskOk.f t116 t117 t118 t119 t120 t121 t122 t123 t124 t125 t126 t127 t128 t129).bind fun t138 => (laws_FnBefore.j2 kj17 l0 x5_4 x6_4 (!t138) t102 t103 t104 t105 t106 t107 t108 t109 t110 t111 t112 t113 t114 t115 t116 t117 t118 t119 t120 t121 t122 t123 t124 t125 t126 t127 t128 t129)) else (laws_FnBefore.j2 kj17 l0 x5_4 x6_4 true t102 t103 t104 t105 t106 t107 t108 t109 t110 t111 t112 t113 t114 t115 t116 t117 t118 t119 t120 t121 t122 t123 t124 t125 t126 t127 t128 t129))) = some r := by rw [if_neg (show ¬ (false = true) by decide)] at H; exact H
              clear H
              have H := H1
              clear H1
              have HC46 := Aside0.mk H
              clear H
              go_upto_region 7 with (fail)
              go_cut [45] (fun v45 wc => ∃ (kq : Nat) (x45_45 : Bool), v45 = .bool x45_45 ∧ Aside0 (laws_FnBefore.j2 kq l0 x5_4 x6_4 x45_45 t102 t103 t104 t105 t106 t107 t108 t109 t110 t111 t112 t113 t114 t115 t116 t117 t118 t119 t120 t121 t122 t123 t124 t125 t126 t127 t128 t129 = some r) ∧ Aside0 (kq ≤ kj17) ∧ Aside0 (wc.heap[gb130]? = some (.cells #[.int .i64 t102, .int .i64 t103, .int .i64 t104, .int .i64 t105, .bool t106, .int .i64 t107, .int .i64 t108, .int .i64 t109, .int .i64 t110, .int .i64 t111, .int .i64 t112, .int .i64 t113, .int .i64 t114, .int .i64 t115] 27 (0, 0))) ∧ Aside0 (wc.heap[gb131]? = some (.cells #[.int .i64 t116, .int .i64 t117, .int .i64 t118, .int .i64 t119, .bool t120, .int .i64 t121, .int .i64 t122, .int .i64 t123, .int .i64 t124, .int .i64 t125, .int .i64 t126, .int .i64 t127, .int .i64 t128, .int .i64 t129] 27 (0, 0))) ∧ Aside0 (Below w.heap.size w wc))
              case first =>
                refine @id ?T6 ?_
                let rec ax6 : ?T6 := by
                  clear ax6
                  have H := HC46.out
                  clear HC46
                  replace H := Option.bind_eq_some_iff.mp H
                  obtain ⟨t137, A470, H⟩ := H
                  replace H : (if t137 = true then ((spec_TaskOk.f t116 t117 t118 t119 t120 t121 t122 t123 t124 t125 t126 t127 t128 t129).bind fun t138 => (laws_FnBefore.j2 kj17 l0 x5_4 x6_4 (!t138) t102 t103 t104 t105 t106 t107 t108 t109 t110 t111 t112 t113 t114 t115 t116 t117 t118 t119 t120 t121 t122 t123 t124 t125 t126 t127 t128 t129)) else (laws_FnBefore.j2 kj17 l0 x5_4 x6_4 true t102 t103 t104 t105 t106 t107 t108 t109 t110 t111 t112 t113 t114 t115 t116 t117 t118 t119 t120 t121 t122 t123 t124 t125 t126 t127 t128 t129)) = some r := H
                  have A47 := Aside0.mk A470
                  clear A470
                  by_cases c48 : t137 = true
                  · subst c48
                    have H1 : ((spec_TaskOk.f t116 t117 t118 t119 t120 t121 t122 t123 t124 t125 t126 t127 t128 t129).bind fun t138 => (laws_FnBefore.j2 kj17 l0 x5_4 x6_4 (!t138) t102 t103 t104 t105 t106 t107 t108 t109 t110 t111 t112 t113 t114 t115 t116 t117 t118 t119 t120 t121 t122 t123 t124 t125 t126 t127 t128 t129)) = some r := by rw [if_pos rfl] at H; exact H
                    clear H
                    have H := H1
                    clear H1
                    replace H := Option.bind_eq_some_iff.mp H
                    obtain ⟨t138, A490, H⟩ := H
                    replace H : (laws_FnBefore.j2 kj17 l0 x5_4 x6_4 (!t138) t102 t103 t104 t105 t106 t107 t108 t109 t110 t111 t112 t113 t114 t115 t116 t117 t118 t119 t120 t121 t122 t123 t124 t125 t126 t127 t128 t129) = some r := H
                    have A49 := Aside0.mk A490
                    clear A490
                    have H' := Aside0.mk H
                    clear H
                    have hnb50 := NB130_131.out
                    have hnc50 := NB131_130.out
                    obtain ⟨_,_,_,_,_,_,_,_,_,_,_,_,_,_⟩ := cz14 BK130.out
                    have hfz51_0 := blk_frozen BK130.out
                    go_wp2_with (first | ((with_reducible refine gate_callee (f := 26) rfl ?_); refine gL (some 39) Try.func26 #[.agg #[.int .i64 t102, .int .i64 t103, .int .i64 t104, .int .i64 t105, .bool t106, .int .i64 t107, .int .i64 t108, .int .i64 t109, .int .i64 t110, .int .i64 t111, .int .i64 t112, .int .i64 t113, .int .i64 t114, .int .i64 t115]] ?_; (with_reducible refine (spec_TaskOk.calls t102 t103 t104 t105 t106 t107 t108 t109 t110 t111 t112 t113 t114 t115 true _ A47.out).mono ?_); rintro e w52 ⟨rfl, hb⟩; refine ⟨_, rfl, ?_⟩; have n0_ := aM (blk_below (kq BK130) hb); have n1_ := aM (blk_below (kq BK131) hb); have n2_ := aM (below_step (bq HB) hb); clear BK130 BK131 HB; have BK130 := n0_; have BK131 := n1_; have HB := n2_; clear n0_ n1_ n2_; (try clear hb); (try clear hb2); (try clear hk); (try clear hi); obtain ⟨_,_,_,_,_,_,_,_,_,_,_,_,_,_⟩ := cz14 BK131.out; have hfz53_0 := blk_frozen BK131.out) | (go_at_call 26; (with_reducible refine (spec_TaskOk.calls t116 t117 t118 t119 t120 t121 t122 t123 t124 t125 t126 t127 t128 t129 t138 _ A49.out).mono ?_); rintro e w54 ⟨rfl, hb⟩; have n0_ := aM (blk_below (kq BK130) hb); have n1_ := aM (blk_below (kq BK131) hb); have n2_ := aM (below_step (bq HB) hb); clear BK130 BK131 HB; have BK130 := n0_; have BK131 := n1_; have HB := n2_; clear n0_ n1_ n2_; (try clear hb); (try clear hb2); (try clear hk); (try clear hi)))
                    go_meet
                    case rel => exact ⟨_, (!t138), (by first | rfl | (simp; done) | (simp [*]; done)), H', ⟨by have := HJ4.out; have := HJ17.out; first | omega | exact Nat.le_refl _⟩, ⟨by (with_reducible repeat (first | apply bkD | apply bkd | apply bkA)); exact BK130.out⟩, ⟨by (with_reducible repeat (first | apply bkD | apply bkd | apply bkA)); exact BK131.out⟩, ⟨bq HB⟩⟩
                  replace c48 := Bool.eq_false_iff.mpr c48
                  subst c48
                  have H1 : (laws_FnBefore.j2 kj17 l0 x5_4 x6_4 true t102 t103 t104 t105 t106 t107 t108 t109 t110 t111 t112 t113 t114 t115 t116 t117 t118 t119 t120 t121 t122 t123 t124 t125 t126 t127 t128 t129) = some r := by rw [if_neg (show ¬ (false = true) by decide)] at H; exact H
                  clear H
                  have H := H1
                  clear H1
                  have H' := Aside0.mk H
                  clear H
                  have hnb55 := NB130_131.out
                  have hnc55 := NB131_130.out
                  obtain ⟨_,_,_,_,_,_,_,_,_,_,_,_,_,_⟩ := cz14 BK130.out
                  have hfz56_0 := blk_frozen BK130.out
                  go_wp2_with (first | ((with_reducible refine gate_callee (f := 26) rfl ?_); refine gL (some 39) Try.func26 #[.agg #[.int .i64 t102, .int .i64 t103, .int .i64 t104, .int .i64 t105, .bool t106, .int .i64 t107, .int .i64 t108, .int .i64 t109, .int .i64 t110, .int .i64 t111, .int .i64 t112, .int .i64 t113, .int .i64 t114, .int .i64 t115]] ?_; (with_reducible refine (spec_TaskOk.calls t102 t103 t104 t105 t106 t107 t108 t109 t110 t111 t112 t113 t114 t115 false _ A47.out).mono ?_); rintro e w57 ⟨rfl, hb⟩; refine ⟨_, rfl, ?_⟩; have n0_ := aM (blk_below (kq BK130) hb); have n1_ := aM (blk_below (kq BK131) hb); have n2_ := aM (below_step (bq HB) hb); clear BK130 BK131 HB; have BK130 := n0_; have BK131 := n1_; have HB := n2_; clear n0_ n1_ n2_; (try clear hb); (try clear hb2); (try clear hk); (try clear hi)))
                  go_meet
                  case rel => exact ⟨_, (true), (by first | rfl | (simp; done) | (simp [*]; done)), H', ⟨by have := HJ4.out; have := HJ17.out; first | omega | exact Nat.le_refl _⟩, ⟨by (with_reducible repeat (first | apply bkD | apply bkd | apply bkA)); exact BK130.out⟩, ⟨by (with_reducible repeat (first | apply bkD | apply bkd | apply bkA)); exact BK131.out⟩, ⟨bq HB⟩⟩
                exact ax6
              case rest =>
                refine @id ?T7 ?_
                let rec ax7 : ?T7 := by
                  clear ax7
                  clear HC46
                  try clear c1
                  try clear c2
                  try clear p2
                  try clear c3
                  try clear c4
                  try clear c5
                  try clear c6
                  try clear c9
                  try clear c12
                  try clear c20
                  try clear c20b0
                  try clear c20b1
                  try clear c20b2
                  try clear c21
                  try clear c25
                  try clear c26
                  try clear c27
                  try clear c30
                  try clear c31
                  try clear c32
                  try clear c39
                  try clear c45
                  try clear c48
                  try clear c50
                  try clear c55
                  try clear hfz10_0
                  try clear hfz11_0
                  try clear hfz22_0
                  try clear hfz23_0
                  try clear hfz28_0
                  try clear hfz29_0
                  try clear hfz33_0
                  try clear hfz34_0
                  try clear hfz36_0
                  try clear hfz40_0
                  try clear hfz41_0
                  try clear hfz43_0
                  try clear hfz51_0
                  try clear hfz53_0
                  try clear hfz56_0
                  try clear p2
                  obtain ⟨kq, x45_45, rfl, HA, HJ45, BK130, BK131, HB⟩ := hcut
                  cases kq with
                  | zero => exact absurd HA.out (by simp [laws_FnBefore.j2])
                  | succ kj45 =>
                    have H := HA.out
                    clear HA
                    simp only [laws_FnBefore.j2] at H
                    by_cases c58 : x45_45 = true
                    · subst c58
                      have H1 : (if x5_4 = true then (some false) else (some (!x6_4))) = some r := by rw [if_pos rfl] at H; exact H
                      clear H
                      have H := H1
                      clear H1
                      by_cases c59 : x5_4 = true
                      · subst c59
                        have H1 : (some false) = some r := by rw [if_pos rfl] at H; exact H
                        clear H
                        have H := H1
                        clear H1
                        exact absurd ((Option.some.inj H).trans HRT.out) Bool.false_ne_true
                      replace c59 := Bool.eq_false_iff.mpr c59
                      subst c59
                      have H1 : (some (!x6_4)) = some r := by rw [if_neg (show ¬ (false = true) by decide)] at H; exact H
                      clear H
                      have H := H1
                      clear H1
                      obtain rfl := Option.some.inj H
                      go_wp2
                      all_goals go_ret
                      all_goals exact ⟨by first | rfl | (simp <;> rfl) | (simp [*] <;> rfl), bq HB⟩
                    replace c58 := Bool.eq_false_iff.mpr c58
                    subst c58
                    have H1 : (if t102 = t116 then (laws_FnBefore.j3 kj45 l0 x5_4 false t102 t103 t104 t105 t106 t107 t108 t109 t110 t111 t112 t113 t114 t115 t116 t117 t118 t119 t120 t121 t122 t123 t124 t125 t126 t127 t128 t129) else (if x5_4 = true then (laws_FnBefore.j3 kj45 l0 x5_4 false t102 t103 t104 t105 t106 t107 t108 t109 t110 t111 t112 t113 t114 t115 t116 t117 t118 t119 t120 t121 t122 t123 t124 t125 t126 t127 t128 t129) else (laws_FnBefore.j3 kj45 l0 x5_4 (!x6_4) t102 t103 t104 t105 t106 t107 t108 t109 t110 t111 t112 t113 t114 t115 t116 t117 t118 t119 t120 t121 t122 t123 t124 t125 t126 t127 t128 t129))) = some r := by rw [if_neg (show ¬ (false = true) by decide)] at H; exact H
                    clear H
                    have H := H1
                    clear H1
                    have HC60 := Aside0.mk H
                    clear H
                    go_upto_region 9 with (fail)
                    go_cut [64] (fun v64 wc => ∃ (kq : Nat) (x64_59 : Bool), v64 = .bool x64_59 ∧ Aside0 (laws_FnBefore.j3 kq l0 x5_4 x64_59 t102 t103 t104 t105 t106 t107 t108 t109 t110 t111 t112 t113 t114 t115 t116 t117 t118 t119 t120 t121 t122 t123 t124 t125 t126 t127 t128 t129 = some r) ∧ Aside0 (kq ≤ kj45) ∧ Aside0 (wc.heap[gb130]? = some (.cells #[.int .i64 t102, .int .i64 t103, .int .i64 t104, .int .i64 t105, .bool t106, .int .i64 t107, .int .i64 t108, .int .i64 t109, .int .i64 t110, .int .i64 t111, .int .i64 t112, .int .i64 t113, .int .i64 t114, .int .i64 t115] 27 (0, 0))) ∧ Aside0 (wc.heap[gb131]? = some (.cells #[.int .i64 t116, .int .i64 t117, .int .i64 t118, .int .i64 t119, .bool t120, .int .i64 t121, .int .i64 t122, .int .i64 t123, .int .i64 t124, .int .i64 t125, .int .i64 t126, .int .i64 t127, .int .i64 t128, .int .i64 t129] 27 (0, 0))) ∧ Aside0 (Below w.heap.size w wc))
                    case first =>
                      refine @id ?T8 ?_
                      let rec ax8 : ?T8 := by
                        clear ax8
                        have H := HC60.out
                        clear HC60
                        by_cases c61 : t102 = t116
                        · refine @id ?T9 ?_
                          let rec ax9 : ?T9 := by
                            clear ax9
                            rw [if_pos c61] at H
                            have c61b0 : (t102 == t116) = true := beq_iff_eq.mpr c61
                            have c61b1 : (t102 != t116) = false := bne_eq_false_iff_eq.mpr c61
                            clear c61
                            (first | rw [c61b0] | (simp only [i64_w, i32_w]; rw [c61b0]) | skip)
                            have H' := Aside0.mk H
                            clear H
                            have hnb62 := NB130_131.out
                            have hnc62 := NB131_130.out
                            obtain ⟨_,_,_,_,_,_,_,_,_,_,_,_,_,_⟩ := cz14 BK130.out
                            have hfz63_0 := blk_frozen BK130.out
                            obtain ⟨_,_,_,_,_,_,_,_,_,_,_,_,_,_⟩ := cz14 BK131.out
                            have hfz64_0 := blk_frozen BK131.out
                            go_wp2
                            go_meet
                            case rel => exact ⟨_, (false), (by first | rfl | (simp; done) | (simp [*]; done)), H', ⟨by have := HJ4.out; have := HJ17.out; have := HJ45.out; first | omega | exact Nat.le_refl _⟩, ⟨by (with_reducible repeat (first | apply bkD | apply bkd | apply bkA)); exact BK130.out⟩, ⟨by (with_reducible repeat (first | apply bkD | apply bkd | apply bkA)); exact BK131.out⟩, ⟨bq HB⟩⟩
                          exact ax9
                        rw [if_neg c61] at H
                        have c61b0 : (t102 == t116) = false := beq_eq_false_iff_ne.mpr c61
                        have c61b1 : (t102 != t116) = true := bne_iff_ne.mpr c61
                        (first | rw [c61b0] | (simp only [i64_w, i32_w]; rw [c61b0]) | skip)
                        by_cases c65 : x5_4 = true
                        · subst c65
                          have H1 : (laws_FnBefore.j3 kj45 l0 true false t102 t103 t104 t105 t106 t107 t108 t109 t110 t111 t112 t113 t114 t115 t116 t117 t118 t119 t120 t121 t122 t123 t124 t125 t126 t127 t128 t129) = some r := by rw [if_pos rfl] at H; exact H
                          clear H
                          have H := H1
                          clear H1
                          have H' := Aside0.mk H
                          clear H
                          have hnb66 := NB130_131.out
                          have hnc66 := NB131_130.out
                          obtain ⟨_,_,_,_,_,_,_,_,_,_,_,_,_,_⟩ := cz14 BK130.out
                          have hfz67_0 := blk_frozen BK130.out
                          obtain ⟨_,_,_,_,_,_,_,_,_,_,_,_,_,_⟩ := cz14 BK131.out
                          have hfz68_0 := blk_frozen BK131.out
                          go_wp2
                          go_meet
                          case rel => exact ⟨_, (false), (by first | rfl | (simp; done) | (simp [*]; done)), H', ⟨by have := HJ4.out; have := HJ17.out; have := HJ45.out; first | omega | exact Nat.le_refl _⟩, ⟨by (with_reducible repeat (first | apply bkD | apply bkd | apply bkA)); exact BK130.out⟩, ⟨by (with_reducible repeat (first | apply bkD | apply bkd | apply bkA)); exact BK131.out⟩, ⟨bq HB⟩⟩
                        replace c65 := Bool.eq_false_iff.mpr c65
                        subst c65
                        have H1 : (laws_FnBefore.j3 kj45 l0 false (!x6_4) t102 t103 t104 t105 t106 t107 t108 t109 t110 t111 t112 t113 t114 t115 t116 t117 t118 t119 t120 t121 t122 t123 t124 t125 t126 t127 t128 t129) = some r := by rw [if_neg (show ¬ (false = true) by decide)] at H; exact H
                        clear H
                        have H := H1
                        clear H1
                        have H' := Aside0.mk H
                        clear H
                        have hnb69 := NB130_131.out
                        have hnc69 := NB131_130.out
                        obtain ⟨_,_,_,_,_,_,_,_,_,_,_,_,_,_⟩ := cz14 BK130.out
                        have hfz70_0 := blk_frozen BK130.out
                        obtain ⟨_,_,_,_,_,_,_,_,_,_,_,_,_,_⟩ := cz14 BK131.out
                        have hfz71_0 := blk_frozen BK131.out
                        go_wp2
                        go_meet
                        case rel => exact ⟨_, (!x6_4), (by first | rfl | (simp; done) | (simp [*]; done)), H', ⟨by have := HJ4.out; have := HJ17.out; have := HJ45.out; first | omega | exact Nat.le_refl _⟩, ⟨by (with_reducible repeat (first | apply bkD | apply bkd | apply bkA)); exact BK130.out⟩, ⟨by (with_reducible repeat (first | apply bkD | apply bkd | apply bkA)); exact BK131.out⟩, ⟨bq HB⟩⟩
                      exact ax8
                    case rest =>
                      refine @id ?T10 ?_
                      let rec ax10 : ?T10 := by
                        clear ax10
                        clear HC60
                        try clear p2
                        try clear c5
                        try clear c6
                        try clear c58
                        try clear c59
                        try clear c61
                        try clear c61b0
                        try clear c61b1
                        try clear c62
                        try clear c65
                        try clear c66
                        try clear c69
                        try clear hfz10_0
                        try clear hfz11_0
                        try clear hfz22_0
                        try clear hfz23_0
                        try clear hfz28_0
                        try clear hfz29_0
                        try clear hfz33_0
                        try clear hfz34_0
                        try clear hfz36_0
                        try clear hfz40_0
                        try clear hfz41_0
                        try clear hfz43_0
                        try clear hfz51_0
                        try clear hfz53_0
                        try clear hfz56_0
                        try clear hfz63_0
                        try clear hfz64_0
                        try clear hfz67_0
                        try clear hfz68_0
                        try clear hfz70_0
                        try clear hfz71_0
                        try clear p2
                        obtain ⟨kq, x64_59, rfl, HA, HJ59, BK130, BK131, HB⟩ := hcut
                        cases kq with
                        | zero => exact absurd HA.out (by simp [laws_FnBefore.j3])
                        | succ kj59 =>
                          have H := HA.out
                          clear HA
                          simp only [laws_FnBefore.j3] at H
                          by_cases c72 : x64_59 = true
                          · subst c72
                            have H1 : (some false) = some r := by rw [if_pos rfl] at H; exact H
                            clear H
                            have H := H1
                            clear H1
                            exact absurd ((Option.some.inj H).trans HRT.out) Bool.false_ne_true
                          replace c72 := Bool.eq_false_iff.mpr c72
                          subst c72
                          have H1 : ((spec_DrawFairBefore.f kj59 l0).bind fun bt139 => ((impl_FairBefore.f bt139.1 bt139.2.1 bt139.2.2.1 bt139.2.2.2.1 bt139.2.2.2.2.1 bt139.2.2.2.2.2.1 bt139.2.2.2.2.2.2.1 bt139.2.2.2.2.2.2.2.1 bt139.2.2.2.2.2.2.2.2.1 bt139.2.2.2.2.2.2.2.2.2.1 bt139.2.2.2.2.2.2.2.2.2.2.1 bt139.2.2.2.2.2.2.2.2.2.2.2.1 bt139.2.2.2.2.2.2.2.2.2.2.2.2.1 bt139.2.2.2.2.2.2.2.2.2.2.2.2.2.1 bt139.2.2.2.2.2.2.2.2.2.2.2.2.2.2.1 bt139.2.2.2.2.2.2.2.2.2.2.2.2.2.2.2.1 bt139.2.2.2.2.2.2.2.2.2.2.2.2.2.2.2.2.1 bt139.2.2.2.2.2.2.2.2.2.2.2.2.2.2.2.2.2.1 bt139.2.2.2.2.2.2.2.2.2.2.2.2.2.2.2.2.2.2.1 bt139.2.2.2.2.2.2.2.2.2.2.2.2.2.2.2.2.2.2.2.1 bt139.2.2.2.2.2.2.2.2.2.2.2.2.2.2.2.2.2.2.2.2.1 bt139.2.2.2.2.2.2.2.2.2.2.2.2.2.2.2.2.2.2.2.2.2.1 bt139.2.2.2.2.2.2.2.2.2.2.2.2.2.2.2.2.2.2.2.2.2.2.1 bt139.2.2.2.2.2.2.2.2.2.2.2.2.2.2.2.2.2.2.2.2.2.2.2.1 bt139.2.2.2.2.2.2.2.2.2.2.2.2.2.2.2.2.2.2.2.2.2.2.2.2.1 bt139.2.2.2.2.2.2.2.2.2.2.2.2.2.2.2.2.2.2.2.2.2.2.2.2.2.1 bt139.2.2.2.2.2.2.2.2.2.2.2.2.2.2.2.2.2.2.2.2.2.2.2.2.2.2.1 bt139.2.2.2.2.2.2.2.2.2.2.2.2.2.2.2.2.2.2.2.2.2.2.2.2.2.2.2).bind fun t169 => ((spec_FairBefore.f bt139.1 bt139.2.1 bt139.2.2.1 bt139.2.2.2.1 bt139.2.2.2.2.1 bt139.2.2.2.2.2.1 bt139.2.2.2.2.2.2.1 bt139.2.2.2.2.2.2.2.1 bt139.2.2.2.2.2.2.2.2.1 bt139.2.2.2.2.2.2.2.2.2.1 bt139.2.2.2.2.2.2.2.2.2.2.1 bt139.2.2.2.2.2.2.2.2.2.2.2.1 bt139.2.2.2.2.2.2.2.2.2.2.2.2.1 bt139.2.2.2.2.2.2.2.2.2.2.2.2.2.1 bt139.2.2.2.2.2.2.2.2.2.2.2.2.2.2.1 bt139.2.2.2.2.2.2.2.2.2.2.2.2.2.2.2.1 bt139.2.2.2.2.2.2.2.2.2.2.2.2.2.2.2.2.1 bt139.2.2.2.2.2.2.2.2.2.2.2.2.2.2.2.2.2.1 bt139.2.2.2.2.2.2.2.2.2.2.2.2.2.2.2.2.2.2.1 bt139.2.2.2.2.2.2.2.2.2.2.2.2.2.2.2.2.2.2.2.1 bt139.2.2.2.2.2.2.2.2.2.2.2.2.2.2.2.2.2.2.2.2.1 bt139.2.2.2.2.2.2.2.2.2.2.2.2.2.2.2.2.2.2.2.2.2.1 bt139.2.2.2.2.2.2.2.2.2.2.2.2.2.2.2.2.2.2.2.2.2.2.1 bt139.2.2.2.2.2.2.2.2.2.2.2.2.2.2.2.2.2.2.2.2.2.2.2.1 bt139.2.2.2.2.2.2.2.2.2.2.2.2.2.2.2.2.2.2.2.2.2.2.2.2.1 bt139.2.2.2.2.2.2.2.2.2.2.2.2.2.2.2.2.2.2.2.2.2.2.2.2.2.1 bt139.2.2.2.2.2.2.2.2.2.2.2.2.2.2.2.2.2.2.2.2.2.2.2.2.2.2.1 bt139.2.2.2.2.2.2.2.2.2.2.2.2.2.2.2.2.2.2.2.2.2.2.2.2.2.2.2).bind fun t170 => (laws_FnBefore.j4 kj59 x5_4 (t169 != t170) t102 t103 t104 t105 t106 t107 t108 t109 t110 t111 t112 t113 t114 t115 t116 t117 t118 t119 t120 t121 t122 t123 t124 t125 t126 t127 t128 t129 bt139.1 bt139.2.1 bt139.2.2.1 bt139.2.2.2.1 bt139.2.2.2.2.1 bt139.2.2.2.2.2.1 bt139.2.2.2.2.2.2.1 bt139.2.2.2.2.2.2.2.1 bt139.2.2.2.2.2.2.2.2.1 bt139.2.2.2.2.2.2.2.2.2.1 bt139.2.2.2.2.2.2.2.2.2.2.1 bt139.2.2.2.2.2.2.2.2.2.2.2.1 bt139.2.2.2.2.2.2.2.2.2.2.2.2.1 bt139.2.2.2.2.2.2.2.2.2.2.2.2.2.1)))) = some r := by rw [if_neg (show ¬ (false = true) by decide)] at H; exact H
                          clear H
                          have H := H1
                          clear H1
                          replace H := Option.bind_eq_some_iff.mp H
                          obtain ⟨⟨t139, t140, t141, t142, t143, t144, t145, t146, t147, t148, t149, t150, t151, t152, t153, t154, t155, t156, t157, t158, t159, t160, t161, t162, t163, t164, t165, t166⟩, A730, H⟩ := H
                          replace H : ((impl_FairBefore.f t139 t140 t141 t142 t143 t144 t145 t146 t147 t148 t149 t150 t151 t152 t153 t154 t155 t156 t157 t158 t159 t160 t161 t162 t163 t164 t165 t166).bind fun t169 => ((spec_FairBefore.f t139 t140 t141 t142 t143 t144 t145 t146 t147 t148 t149 t150 t151 t152 t153 t154 t155 t156 t157 t158 t159 t160 t161 t162 t163 t164 t165 t166).bind fun t170 => (laws_FnBefore.j4 kj59 x5_4 (t169 != t170) t102 t103 t104 t105 t106 t107 t108 t109 t110 t111 t112 t113 t114 t115 t116 t117 t118 t119 t120 t121 t122 t123 t124 t125 t126 t127 t128 t129 t139 t140 t141 t142 t143 t144 t145 t146 t147 t148 t149 t150 t151 t152))) = some r := H
                          have A73 := Aside0.mk A730
                          clear A730
                          have HC74 := Aside0.mk H
                          clear H
                          go_upto_region 12 with (first | ((with_reducible refine gate_callee (f := 33) rfl ?_); refine gL (some 67) Try.func33 #[.slice A0 l0.length c0] ?_; (with_reducible refine (spec_DrawFairBefore.calls kj59 _ _ l0 t139 t140 t141 t142 t143 t144 t145 t146 t147 t148 t149 t150 t151 t152 t153 t154 t155 t156 t157 t158 t159 t160 t161 t162 t163 t164 t165 t166 _ ?side1 ?side2 A73.out).mono ?_); (case side1 => repeat (first | exact (Kd.C_below HR0.out HB.out) | (with_reducible refine Kd.C_alloc ?_ _) | (with_reducible refine Kd.C_drewN ?_ _) | (with_reducible refine Kd.C_drew ?_))); (case side2 => exact HC0.out); rintro e w75 ⟨rfl, hb⟩; refine ⟨_, rfl, ?_⟩; have n0_ := aM (blk_below (kq BK130) hb); have n1_ := aM (blk_below (kq BK131) hb); have n2_ := aM (below_step (bq HB) hb); clear BK130 BK131 HB; have BK130 := n0_; have BK131 := n1_; have HB := n2_; clear n0_ n1_ n2_; (try clear hb); (try clear hb2); (try clear hk); (try clear hi)) | ((with_reducible refine gate_dst (N := 7) rfl ?_); refine box_event ?hg (N := 7) ?hd (cs := tk14 0 0 0 0 false 0 0 0 0 0 0 0 0 0) (t := 27) ?hr ?_; (case hd => rfl); (case hg => rfl); (case hr => first | (go_simp; done) | (go_simp; rfl)); intro gb167 hg w76 hbox hb; have n0_ := aM (blk_below (kq BK130) hb); have n1_ := aM (blk_below (kq BK131) hb); have n2_ := aM (below_step (bq HB) hb); have n3_ := aM (hbox); have n4_ := aM ((by rw [hg]; exact (below_size (bq HB)) : w.heap.size ≤ gb167)); have n5_ := n4_; have n6_ := aM ((by rw [hg]; exact Nat.ne_of_lt (blk_lt (kq BK130)) : gb130 ≠ gb167)); have n7_ := aM (n6_.out.symm); have n8_ := aM ((by rw [hg]; exact Nat.ne_of_lt (blk_lt (kq BK131)) : gb131 ≠ gb167)); have n9_ := aM (n8_.out.symm); clear BK130 BK131 HB; have BK130 := n0_; have BK131 := n1_; have HB := n2_; have BK167 := n3_; have GW167 := n4_; have GE167 := n5_; have NB130_167 := n6_; have NB167_130 := n7_; have NB131_167 := n8_; have NB167_131 := n9_; clear n0_ n1_ n2_ n3_ n4_ n5_ n6_ n7_ n8_ n9_; clear hb hbox hg) | ((with_reducible refine gate_dst (N := 8) rfl ?_); refine box_event ?hg (N := 8) ?hd (cs := tk14 0 0 0 0 false 0 0 0 0 0 0 0 0 0) (t := 27) ?hr ?_; (case hd => rfl); (case hg => rfl); (case hr => first | (go_simp; done) | (go_simp; rfl)); intro gb168 hg w77 hbox hb; have n0_ := aM (blk_below (kq BK130) hb); have n1_ := aM (blk_below (kq BK131) hb); have n2_ := aM (blk_below (kq BK167) hb); have n3_ := aM (below_step (bq HB) hb); have n4_ := aM (hbox); have n5_ := aM ((by rw [hg]; exact (below_size (bq HB)) : w.heap.size ≤ gb168)); have n6_ := n5_; have n7_ := aM ((by rw [hg]; exact Nat.ne_of_lt (blk_lt (kq BK130)) : gb130 ≠ gb168)); have n8_ := aM (n7_.out.symm); have n9_ := aM ((by rw [hg]; exact Nat.ne_of_lt (blk_lt (kq BK131)) : gb131 ≠ gb168)); have n10_ := aM (n9_.out.symm); have n11_ := aM ((by rw [hg]; exact Nat.ne_of_lt (blk_lt (kq BK167)) : gb167 ≠ gb168)); have n12_ := aM (n11_.out.symm); clear BK130 BK131 BK167 HB; have BK130 := n0_; have BK131 := n1_; have BK167 := n2_; have HB := n3_; have BK168 := n4_; have GW168 := n5_; have GE168 := n6_; have NB130_168 := n7_; have NB168_130 := n8_; have NB131_168 := n9_; have NB168_131 := n10_; have NB167_168 := n11_; have NB168_167 := n12_; clear n0_ n1_ n2_ n3_ n4_ n5_ n6_ n7_ n8_ n9_ n10_ n11_ n12_; clear hb hbox hg; have hnb78 := NB167_130.out; have hnc78 := NB130_167.out; have hnb79 := NB167_131.out; have hnc79 := NB131_167.out; have hnb80 := NB167_168.out; have hnc80 := NB168_167.out; obtain ⟨_,_,_,_,_,_,_,_,_,_,_,_,_,_⟩ := cz14 BK167.out; have hfz81_0 := blk_frozen BK167.out; have hnb82 := NB168_130.out; have hnc82 := NB130_168.out; have hnb83 := NB168_131.out; have hnc83 := NB131_168.out; obtain ⟨_,_,_,_,_,_,_,_,_,_,_,_,_,_⟩ := cz14 BK168.out; have hfz84_0 := blk_frozen BK168.out))
                          (try simp only [Act.put, tA, tB, tC])
                          go_cut [76] (fun v76 wc => ∃ (kq : Nat) (x76_73 : Bool), v76 = .bool x76_73 ∧ Aside0 (laws_FnBefore.j4 kq x5_4 x76_73 t102 t103 t104 t105 t106 t107 t108 t109 t110 t111 t112 t113 t114 t115 t116 t117 t118 t119 t120 t121 t122 t123 t124 t125 t126 t127 t128 t129 t139 t140 t141 t142 t143 t144 t145 t146 t147 t148 t149 t150 t151 t152 = some r) ∧ Aside0 (kq ≤ kj59) ∧ Aside0 (wc.heap[gb130]? = some (.cells #[.int .i64 t102, .int .i64 t103, .int .i64 t104, .int .i64 t105, .bool t106, .int .i64 t107, .int .i64 t108, .int .i64 t109, .int .i64 t110, .int .i64 t111, .int .i64 t112, .int .i64 t113, .int .i64 t114, .int .i64 t115] 27 (0, 0))) ∧ Aside0 (wc.heap[gb131]? = some (.cells #[.int .i64 t116, .int .i64 t117, .int .i64 t118, .int .i64 t119, .bool t120, .int .i64 t121, .int .i64 t122, .int .i64 t123, .int .i64 t124, .int .i64 t125, .int .i64 t126, .int .i64 t127, .int .i64 t128, .int .i64 t129] 27 (0, 0))) ∧ Aside0 (wc.heap[gb167]? = some (.cells #[.int .i64 t139, .int .i64 t140, .int .i64 t141, .int .i64 t142, .bool t143, .int .i64 t144, .int .i64 t145, .int .i64 t146, .int .i64 t147, .int .i64 t148, .int .i64 t149, .int .i64 t150, .int .i64 t151, .int .i64 t152] 27 (0, 0))) ∧ Aside0 (wc.heap[gb168]? = some (.cells #[.int .i64 t153, .int .i64 t154, .int .i64 t155, .int .i64 t156, .bool t157, .int .i64 t158, .int .i64 t159, .int .i64 t160, .int .i64 t161, .int .i64 t162, .int .i64 t163, .int .i64 t164, .int .i64 t165, .int .i64 t166] 27 (0, 0))) ∧ Aside0 (Below w.heap.size w wc))
                          case first =>
                            refine @id ?T11 ?_
                            let rec ax11 : ?T11 := by
                              clear ax11
                              have H := HC74.out
                              clear HC74
                              replace H := Option.bind_eq_some_iff.mp H
                              obtain ⟨t169, A850, H⟩ := H
                              replace H : ((spec_FairBefore.f t139 t140 t141 t142 t143 t144 t145 t146 t147 t148 t149 t150 t151 t152 t153 t154 t155 t156 t157 t158 t159 t160 t161 t162 t163 t164 t165 t166).bind fun t170 => (laws_FnBefore.j4 kj59 x5_4 (t169 != t170) t102 t103 t104 t105 t106 t107 t108 t109 t110 t111 t112 t113 t114 t115 t116 t117 t118 t119 t120 t121 t122 t123 t124 t125 t126 t127 t128 t129 t139 t140 t141 t142 t143 t144 t145 t146 t147 t148 t149 t150 t151 t152)) = some r := H
                              have A85 := Aside0.mk A850
                              clear A850
                              replace H := Option.bind_eq_some_iff.mp H
                              obtain ⟨t170, A860, H⟩ := H
                              replace H : (laws_FnBefore.j4 kj59 x5_4 (t169 != t170) t102 t103 t104 t105 t106 t107 t108 t109 t110 t111 t112 t113 t114 t115 t116 t117 t118 t119 t120 t121 t122 t123 t124 t125 t126 t127 t128 t129 t139 t140 t141 t142 t143 t144 t145 t146 t147 t148 t149 t150 t151 t152) = some r := H
                              have A86 := Aside0.mk A860
                              clear A860
                              have H' := Aside0.mk H
                              clear H
                              try go_wp2
                              have n0_ : Aside0 (((((((((((((((((((((((((((((w77.setCell ⟨gb167, 0, none⟩ (.int .i64 t139)).setCell ⟨gb167, 1, none⟩ (.int .i64 t140)).setCell ⟨gb167, 2, none⟩ (.int .i64 t141)).setCell ⟨gb167, 3, none⟩ (.int .i64 t142)).setCell ⟨gb167, 4, none⟩ (.bool t143)).setCell ⟨gb167, 5, none⟩ (.int .i64 t144)).setCell ⟨gb167, 6, none⟩ (.int .i64 t145)).setCell ⟨gb167, 7, none⟩ (.int .i64 t146)).setCell ⟨gb167, 8, none⟩ (.int .i64 t147)).setCell ⟨gb167, 9, none⟩ (.int .i64 t148)).setCell ⟨gb167, 10, none⟩ (.int .i64 t149)).setCell ⟨gb167, 11, none⟩ (.int .i64 t150)).setCell ⟨gb167, 12, none⟩ (.int .i64 t151)).setCell ⟨gb167, 13, none⟩ (.int .i64 t152)).setCell ⟨gb168, 0, none⟩ (.int .i64 t153)).setCell ⟨gb168, 1, none⟩ (.int .i64 t154)).setCell ⟨gb168, 2, none⟩ (.int .i64 t155)).setCell ⟨gb168, 3, none⟩ (.int .i64 t156)).setCell ⟨gb168, 4, none⟩ (.bool t157)).setCell ⟨gb168, 5, none⟩ (.int .i64 t158)).setCell ⟨gb168, 6, none⟩ (.int .i64 t159)).setCell ⟨gb168, 7, none⟩ (.int .i64 t160)).setCell ⟨gb168, 8, none⟩ (.int .i64 t161)).setCell ⟨gb168, 9, none⟩ (.int .i64 t162)).setCell ⟨gb168, 10, none⟩ (.int .i64 t163)).setCell ⟨gb168, 11, none⟩ (.int .i64 t164)).setCell ⟨gb168, 12, none⟩ (.int .i64 t165)).setCell ⟨gb168, 13, none⟩ (.int .i64 t166)).heap[gb130]? = some (.cells #[.int .i64 t102, .int .i64 t103, .int .i64 t104, .int .i64 t105, .bool t106, .int .i64 t107, .int .i64 t108, .int .i64 t109, .int .i64 t110, .int .i64 t111, .int .i64 t112, .int .i64 t113, .int .i64 t114, .int .i64 t115] 27 (0, 0))) := ⟨by refine far14 ?_ NB130_168.out; refine far14 ?_ NB130_167.out; (with_reducible repeat (first | apply bkD | apply bkd | apply bkA)); exact BK130.out⟩
                              have n1_ : Aside0 (((((((((((((((((((((((((((((w77.setCell ⟨gb167, 0, none⟩ (.int .i64 t139)).setCell ⟨gb167, 1, none⟩ (.int .i64 t140)).setCell ⟨gb167, 2, none⟩ (.int .i64 t141)).setCell ⟨gb167, 3, none⟩ (.int .i64 t142)).setCell ⟨gb167, 4, none⟩ (.bool t143)).setCell ⟨gb167, 5, none⟩ (.int .i64 t144)).setCell ⟨gb167, 6, none⟩ (.int .i64 t145)).setCell ⟨gb167, 7, none⟩ (.int .i64 t146)).setCell ⟨gb167, 8, none⟩ (.int .i64 t147)).setCell ⟨gb167, 9, none⟩ (.int .i64 t148)).setCell ⟨gb167, 10, none⟩ (.int .i64 t149)).setCell ⟨gb167, 11, none⟩ (.int .i64 t150)).setCell ⟨gb167, 12, none⟩ (.int .i64 t151)).setCell ⟨gb167, 13, none⟩ (.int .i64 t152)).setCell ⟨gb168, 0, none⟩ (.int .i64 t153)).setCell ⟨gb168, 1, none⟩ (.int .i64 t154)).setCell ⟨gb168, 2, none⟩ (.int .i64 t155)).setCell ⟨gb168, 3, none⟩ (.int .i64 t156)).setCell ⟨gb168, 4, none⟩ (.bool t157)).setCell ⟨gb168, 5, none⟩ (.int .i64 t158)).setCell ⟨gb168, 6, none⟩ (.int .i64 t159)).setCell ⟨gb168, 7, none⟩ (.int .i64 t160)).setCell ⟨gb168, 8, none⟩ (.int .i64 t161)).setCell ⟨gb168, 9, none⟩ (.int .i64 t162)).setCell ⟨gb168, 10, none⟩ (.int .i64 t163)).setCell ⟨gb168, 11, none⟩ (.int .i64 t164)).setCell ⟨gb168, 12, none⟩ (.int .i64 t165)).setCell ⟨gb168, 13, none⟩ (.int .i64 t166)).heap[gb131]? = some (.cells #[.int .i64 t116, .int .i64 t117, .int .i64 t118, .int .i64 t119, .bool t120, .int .i64 t121, .int .i64 t122, .int .i64 t123, .int .i64 t124, .int .i64 t125, .int .i64 t126, .int .i64 t127, .int .i64 t128, .int .i64 t129] 27 (0, 0))) := ⟨by refine far14 ?_ NB131_168.out; refine far14 ?_ NB131_167.out; (with_reducible repeat (first | apply bkD | apply bkd | apply bkA)); exact BK131.out⟩
                              have n2_ : Aside0 (((((((((((((((((((((((((((((w77.setCell ⟨gb167, 0, none⟩ (.int .i64 t139)).setCell ⟨gb167, 1, none⟩ (.int .i64 t140)).setCell ⟨gb167, 2, none⟩ (.int .i64 t141)).setCell ⟨gb167, 3, none⟩ (.int .i64 t142)).setCell ⟨gb167, 4, none⟩ (.bool t143)).setCell ⟨gb167, 5, none⟩ (.int .i64 t144)).setCell ⟨gb167, 6, none⟩ (.int .i64 t145)).setCell ⟨gb167, 7, none⟩ (.int .i64 t146)).setCell ⟨gb167, 8, none⟩ (.int .i64 t147)).setCell ⟨gb167, 9, none⟩ (.int .i64 t148)).setCell ⟨gb167, 10, none⟩ (.int .i64 t149)).setCell ⟨gb167, 11, none⟩ (.int .i64 t150)).setCell ⟨gb167, 12, none⟩ (.int .i64 t151)).setCell ⟨gb167, 13, none⟩ (.int .i64 t152)).setCell ⟨gb168, 0, none⟩ (.int .i64 t153)).setCell ⟨gb168, 1, none⟩ (.int .i64 t154)).setCell ⟨gb168, 2, none⟩ (.int .i64 t155)).setCell ⟨gb168, 3, none⟩ (.int .i64 t156)).setCell ⟨gb168, 4, none⟩ (.bool t157)).setCell ⟨gb168, 5, none⟩ (.int .i64 t158)).setCell ⟨gb168, 6, none⟩ (.int .i64 t159)).setCell ⟨gb168, 7, none⟩ (.int .i64 t160)).setCell ⟨gb168, 8, none⟩ (.int .i64 t161)).setCell ⟨gb168, 9, none⟩ (.int .i64 t162)).setCell ⟨gb168, 10, none⟩ (.int .i64 t163)).setCell ⟨gb168, 11, none⟩ (.int .i64 t164)).setCell ⟨gb168, 12, none⟩ (.int .i64 t165)).setCell ⟨gb168, 13, none⟩ (.int .i64 t166)).heap[gb167]? = some (.cells #[.int .i64 t139, .int .i64 t140, .int .i64 t141, .int .i64 t142, .bool t143, .int .i64 t144, .int .i64 t145, .int .i64 t146, .int .i64 t147, .int .i64 t148, .int .i64 t149, .int .i64 t150, .int .i64 t151, .int .i64 t152] 27 (0, 0))) := ⟨by refine far14 ?_ NB167_168.out; refine put14 (cs := tk14 0 0 0 0 false 0 0 0 0 0 0 0 0 0) ?_; (with_reducible repeat (first | apply bkD | apply bkd | apply bkA)); exact BK167.out⟩
                              have n3_ : Aside0 (((((((((((((((((((((((((((((w77.setCell ⟨gb167, 0, none⟩ (.int .i64 t139)).setCell ⟨gb167, 1, none⟩ (.int .i64 t140)).setCell ⟨gb167, 2, none⟩ (.int .i64 t141)).setCell ⟨gb167, 3, none⟩ (.int .i64 t142)).setCell ⟨gb167, 4, none⟩ (.bool t143)).setCell ⟨gb167, 5, none⟩ (.int .i64 t144)).setCell ⟨gb167, 6, none⟩ (.int .i64 t145)).setCell ⟨gb167, 7, none⟩ (.int .i64 t146)).setCell ⟨gb167, 8, none⟩ (.int .i64 t147)).setCell ⟨gb167, 9, none⟩ (.int .i64 t148)).setCell ⟨gb167, 10, none⟩ (.int .i64 t149)).setCell ⟨gb167, 11, none⟩ (.int .i64 t150)).setCell ⟨gb167, 12, none⟩ (.int .i64 t151)).setCell ⟨gb167, 13, none⟩ (.int .i64 t152)).setCell ⟨gb168, 0, none⟩ (.int .i64 t153)).setCell ⟨gb168, 1, none⟩ (.int .i64 t154)).setCell ⟨gb168, 2, none⟩ (.int .i64 t155)).setCell ⟨gb168, 3, none⟩ (.int .i64 t156)).setCell ⟨gb168, 4, none⟩ (.bool t157)).setCell ⟨gb168, 5, none⟩ (.int .i64 t158)).setCell ⟨gb168, 6, none⟩ (.int .i64 t159)).setCell ⟨gb168, 7, none⟩ (.int .i64 t160)).setCell ⟨gb168, 8, none⟩ (.int .i64 t161)).setCell ⟨gb168, 9, none⟩ (.int .i64 t162)).setCell ⟨gb168, 10, none⟩ (.int .i64 t163)).setCell ⟨gb168, 11, none⟩ (.int .i64 t164)).setCell ⟨gb168, 12, none⟩ (.int .i64 t165)).setCell ⟨gb168, 13, none⟩ (.int .i64 t166)).heap[gb168]? = some (.cells #[.int .i64 t153, .int .i64 t154, .int .i64 t155, .int .i64 t156, .bool t157, .int .i64 t158, .int .i64 t159, .int .i64 t160, .int .i64 t161, .int .i64 t162, .int .i64 t163, .int .i64 t164, .int .i64 t165, .int .i64 t166] 27 (0, 0))) := ⟨by refine put14 (cs := tk14 0 0 0 0 false 0 0 0 0 0 0 0 0 0) ?_; refine far14 ?_ NB168_167.out; (with_reducible repeat (first | apply bkD | apply bkd | apply bkA)); exact BK168.out⟩
                              have n4_ : Aside0 (Below w.heap.size w ((((((((((((((((((((((((((((w77.setCell ⟨gb167, 0, none⟩ (.int .i64 t139)).setCell ⟨gb167, 1, none⟩ (.int .i64 t140)).setCell ⟨gb167, 2, none⟩ (.int .i64 t141)).setCell ⟨gb167, 3, none⟩ (.int .i64 t142)).setCell ⟨gb167, 4, none⟩ (.bool t143)).setCell ⟨gb167, 5, none⟩ (.int .i64 t144)).setCell ⟨gb167, 6, none⟩ (.int .i64 t145)).setCell ⟨gb167, 7, none⟩ (.int .i64 t146)).setCell ⟨gb167, 8, none⟩ (.int .i64 t147)).setCell ⟨gb167, 9, none⟩ (.int .i64 t148)).setCell ⟨gb167, 10, none⟩ (.int .i64 t149)).setCell ⟨gb167, 11, none⟩ (.int .i64 t150)).setCell ⟨gb167, 12, none⟩ (.int .i64 t151)).setCell ⟨gb167, 13, none⟩ (.int .i64 t152)).setCell ⟨gb168, 0, none⟩ (.int .i64 t153)).setCell ⟨gb168, 1, none⟩ (.int .i64 t154)).setCell ⟨gb168, 2, none⟩ (.int .i64 t155)).setCell ⟨gb168, 3, none⟩ (.int .i64 t156)).setCell ⟨gb168, 4, none⟩ (.bool t157)).setCell ⟨gb168, 5, none⟩ (.int .i64 t158)).setCell ⟨gb168, 6, none⟩ (.int .i64 t159)).setCell ⟨gb168, 7, none⟩ (.int .i64 t160)).setCell ⟨gb168, 8, none⟩ (.int .i64 t161)).setCell ⟨gb168, 9, none⟩ (.int .i64 t162)).setCell ⟨gb168, 10, none⟩ (.int .i64 t163)).setCell ⟨gb168, 11, none⟩ (.int .i64 t164)).setCell ⟨gb168, 12, none⟩ (.int .i64 t165)).setCell ⟨gb168, 13, none⟩ (.int .i64 t166))) := ⟨bq HB⟩
                              (try clear BK130)
                              (try clear BK131)
                              (try clear BK167)
                              (try clear BK168)
                              (try clear HB)
                              generalize ((((((((((((((((((((((((((((w77.setCell ⟨gb167, 0, none⟩ (.int .i64 t139)).setCell ⟨gb167, 1, none⟩ (.int .i64 t140)).setCell ⟨gb167, 2, none⟩ (.int .i64 t141)).setCell ⟨gb167, 3, none⟩ (.int .i64 t142)).setCell ⟨gb167, 4, none⟩ (.bool t143)).setCell ⟨gb167, 5, none⟩ (.int .i64 t144)).setCell ⟨gb167, 6, none⟩ (.int .i64 t145)).setCell ⟨gb167, 7, none⟩ (.int .i64 t146)).setCell ⟨gb167, 8, none⟩ (.int .i64 t147)).setCell ⟨gb167, 9, none⟩ (.int .i64 t148)).setCell ⟨gb167, 10, none⟩ (.int .i64 t149)).setCell ⟨gb167, 11, none⟩ (.int .i64 t150)).setCell ⟨gb167, 12, none⟩ (.int .i64 t151)).setCell ⟨gb167, 13, none⟩ (.int .i64 t152)).setCell ⟨gb168, 0, none⟩ (.int .i64 t153)).setCell ⟨gb168, 1, none⟩ (.int .i64 t154)).setCell ⟨gb168, 2, none⟩ (.int .i64 t155)).setCell ⟨gb168, 3, none⟩ (.int .i64 t156)).setCell ⟨gb168, 4, none⟩ (.bool t157)).setCell ⟨gb168, 5, none⟩ (.int .i64 t158)).setCell ⟨gb168, 6, none⟩ (.int .i64 t159)).setCell ⟨gb168, 7, none⟩ (.int .i64 t160)).setCell ⟨gb168, 8, none⟩ (.int .i64 t161)).setCell ⟨gb168, 9, none⟩ (.int .i64 t162)).setCell ⟨gb168, 10, none⟩ (.int .i64 t163)).setCell ⟨gb168, 11, none⟩ (.int .i64 t164)).setCell ⟨gb168, 12, none⟩ (.int .i64 t165)).setCell ⟨gb168, 13, none⟩ (.int .i64 t166)) = w87 at n0_ n1_ n2_ n3_ n4_ ⊢
                              have BK130 := n0_
                              have BK131 := n1_
                              have BK167 := n2_
                              have BK168 := n3_
                              have HB := n4_
                              clear n0_ n1_ n2_ n3_ n4_
                              have n0_ := aM (blk_drew BK130.out)
                              have n1_ := aM (blk_drew BK131.out)
                              have n2_ := aM (blk_drew BK167.out)
                              have n3_ := aM (blk_drew BK168.out)
                              have n4_ := aM (below_drew1 HB.out)
                              clear BK130 BK131 BK167 BK168 HB
                              have BK130 := n0_
                              have BK131 := n1_
                              have BK167 := n2_
                              have BK168 := n3_
                              have HB := n4_
                              clear n0_ n1_ n2_ n3_ n4_
                              refine start_ (n := 7) (S := fun w' => cb14t w' gb167 (.int .i64 t139) (.int .i64 t140) (.int .i64 t141) (.int .i64 t142) (.bool t143) (.int .i64 t144) (.int .i64 t145) (.int .i64 t146) (.int .i64 t147) (.int .i64 t148) (.int .i64 t149) (.int .i64 t150) (.int .i64 t151) (.int .i64 t152) (cb14 w' gb168 (.int .i64 t153) (.int .i64 t154) (.int .i64 t155) (.int .i64 t156) (.bool t157) (.int .i64 t158) (.int .i64 t159) (.int .i64 t160) (.int .i64 t161) (.int .i64 t162) (.int .i64 t163) (.int .i64 t164) (.int .i64 t165) (.int .i64 t166))) (ds := []) #[false, false, false, false, false, false, false] (by kernel_rfl) rfl rfl ⟨(blk_cell BK167.out 0).trans rfl, (blk_cell BK167.out 1).trans rfl, (blk_cell BK167.out 2).trans rfl, (blk_cell BK167.out 3).trans rfl, (blk_cell BK167.out 4).trans rfl, (blk_cell BK167.out 5).trans rfl, (blk_cell BK167.out 6).trans rfl, (blk_cell BK167.out 7).trans rfl, (blk_cell BK167.out 8).trans rfl, (blk_cell BK167.out 9).trans rfl, (blk_cell BK167.out 10).trans rfl, (blk_cell BK167.out 11).trans rfl, (blk_cell BK167.out 12).trans rfl, (blk_cell BK167.out 13).trans rfl, (blk_cell BK168.out 0).trans rfl, (blk_cell BK168.out 1).trans rfl, (blk_cell BK168.out 2).trans rfl, (blk_cell BK168.out 3).trans rfl, (blk_cell BK168.out 4).trans rfl, (blk_cell BK168.out 5).trans rfl, (blk_cell BK168.out 6).trans rfl, (blk_cell BK168.out 7).trans rfl, (blk_cell BK168.out 8).trans rfl, (blk_cell BK168.out 9).trans rfl, (blk_cell BK168.out 10).trans rfl, (blk_cell BK168.out 11).trans rfl, (blk_cell BK168.out 12).trans rfl, (blk_cell BK168.out 13).trans rfl⟩ (fun hHeld => ?_)
                              generalize w87.drew = w88 at BK130 BK131 BK167 BK168 HB hHeld ⊢
                              refine tQ (i := 0) (N := some 70) #[true, false, false, false, false, false, false] (by kernel_rfl) hHeld ?_
                              refine tQ (i := 1) (N := some 71) #[true, true, false, false, false, false, false] (by kernel_rfl) hHeld ?_
                              refine tQ (i := 3) (N := some 73) #[true, true, false, true, false, false, false] (by kernel_rfl) hHeld ?_
                              refine tQ (i := 4) (N := some 74) #[true, true, false, true, true, false, false] (by kernel_rfl) hHeld ?_
                              refine one_ (i := 2) (N := some 72) #[true, true, true, true, true, false, false] rfl rfl (by kernel_rfl) (by decide) (fun K hK => ?_)
                              refine goes_ Try.func34 (by kernel_rfl) rfl #[.agg #[.int .i64 t139, .int .i64 t140, .int .i64 t141, .int .i64 t142, .bool t143, .int .i64 t144, .int .i64 t145, .int .i64 t146, .int .i64 t147, .int .i64 t148, .int .i64 t149, .int .i64 t150, .int .i64 t151, .int .i64 t152], .agg #[.int .i64 t153, .int .i64 t154, .int .i64 t155, .int .i64 t156, .bool t157, .int .i64 t158, .int .i64 t159, .int .i64 t160, .int .i64 t161, .int .i64 t162, .int .i64 t163, .int .i64 t164, .int .i64 t165, .int .i64 t166]] (by rfl) rfl rfl (by (try simp only [List.map_toArray, List.map_cons, List.map_nil]); first | done | rfl | (simp only [List.length_drop, List.length_take]; rfl)) ?_
                              with_reducible refine (impl_FairBefore.calls t139 t140 t141 t142 t143 t144 t145 t146 t147 t148 t149 t150 t151 t152 t153 t154 t155 t156 t157 t158 t159 t160 t161 t162 t163 t164 t165 t166 t169 _ A85.out).mono ?_
                              rintro e w89 ⟨rfl, hb⟩
                              refine ⟨_, rfl, ?_⟩
                              have n0_ := aM (blk_below (kq BK130) hb)
                              have n1_ := aM (blk_below (kq BK131) hb)
                              have n2_ := aM (blk_below (kq BK167) hb)
                              have n3_ := aM (blk_below (kq BK168) hb)
                              have n4_ := aM (below_step (bq HB) hb)
                              clear BK130 BK131 BK167 BK168 HB
                              have BK130 := n0_
                              have BK131 := n1_
                              have BK167 := n2_
                              have BK168 := n3_
                              have HB := n4_
                              clear n0_ n1_ n2_ n3_ n4_
                              (try clear hb)
                              (try clear hb2)
                              (try clear hk)
                              (try clear hi)
                              refine hK.out _ _ ⟨(blk_cell BK167.out 0).trans rfl, (blk_cell BK167.out 1).trans rfl, (blk_cell BK167.out 2).trans rfl, (blk_cell BK167.out 3).trans rfl, (blk_cell BK167.out 4).trans rfl, (blk_cell BK167.out 5).trans rfl, (blk_cell BK167.out 6).trans rfl, (blk_cell BK167.out 7).trans rfl, (blk_cell BK167.out 8).trans rfl, (blk_cell BK167.out 9).trans rfl, (blk_cell BK167.out 10).trans rfl, (blk_cell BK167.out 11).trans rfl, (blk_cell BK167.out 12).trans rfl, (blk_cell BK167.out 13).trans rfl, (blk_cell BK168.out 0).trans rfl, (blk_cell BK168.out 1).trans rfl, (blk_cell BK168.out 2).trans rfl, (blk_cell BK168.out 3).trans rfl, (blk_cell BK168.out 4).trans rfl, (blk_cell BK168.out 5).trans rfl, (blk_cell BK168.out 6).trans rfl, (blk_cell BK168.out 7).trans rfl, (blk_cell BK168.out 8).trans rfl, (blk_cell BK168.out 9).trans rfl, (blk_cell BK168.out 10).trans rfl, (blk_cell BK168.out 11).trans rfl, (blk_cell BK168.out 12).trans rfl, (blk_cell BK168.out 13).trans rfl⟩ (fun hHeld => ?_)
                              clear hK K
                              refine nQ (N := some 72) ?_
                              refine one_ (i := 5) (N := some 75) #[true, true, true, true, true, true, false] rfl rfl (by kernel_rfl) (by decide) (fun K hK => ?_)
                              refine goes_ Try.func35 (by kernel_rfl) rfl #[.agg #[.int .i64 t139, .int .i64 t140, .int .i64 t141, .int .i64 t142, .bool t143, .int .i64 t144, .int .i64 t145, .int .i64 t146, .int .i64 t147, .int .i64 t148, .int .i64 t149, .int .i64 t150, .int .i64 t151, .int .i64 t152], .agg #[.int .i64 t153, .int .i64 t154, .int .i64 t155, .int .i64 t156, .bool t157, .int .i64 t158, .int .i64 t159, .int .i64 t160, .int .i64 t161, .int .i64 t162, .int .i64 t163, .int .i64 t164, .int .i64 t165, .int .i64 t166]] (by rfl) rfl rfl (by (try simp only [List.map_toArray, List.map_cons, List.map_nil]); first | done | rfl | (simp only [List.length_drop, List.length_take]; rfl)) ?_
                              with_reducible refine (spec_FairBefore.calls t139 t140 t141 t142 t143 t144 t145 t146 t147 t148 t149 t150 t151 t152 t153 t154 t155 t156 t157 t158 t159 t160 t161 t162 t163 t164 t165 t166 t170 _ A86.out).mono ?_
                              rintro e w90 ⟨rfl, hb⟩
                              refine ⟨_, rfl, ?_⟩
                              have n0_ := aM (blk_below (kq BK130) hb)
                              have n1_ := aM (blk_below (kq BK131) hb)
                              have n2_ := aM (blk_below (kq BK167) hb)
                              have n3_ := aM (blk_below (kq BK168) hb)
                              have n4_ := aM (below_step (bq HB) hb)
                              clear BK130 BK131 BK167 BK168 HB
                              have BK130 := n0_
                              have BK131 := n1_
                              have BK167 := n2_
                              have BK168 := n3_
                              have HB := n4_
                              clear n0_ n1_ n2_ n3_ n4_
                              (try clear hb)
                              (try clear hb2)
                              (try clear hk)
                              (try clear hi)
                              refine hK.out _ _ ⟨(blk_cell BK167.out 0).trans rfl, (blk_cell BK167.out 1).trans rfl, (blk_cell BK167.out 2).trans rfl, (blk_cell BK167.out 3).trans rfl, (blk_cell BK167.out 4).trans rfl, (blk_cell BK167.out 5).trans rfl, (blk_cell BK167.out 6).trans rfl, (blk_cell BK167.out 7).trans rfl, (blk_cell BK167.out 8).trans rfl, (blk_cell BK167.out 9).trans rfl, (blk_cell BK167.out 10).trans rfl, (blk_cell BK167.out 11).trans rfl, (blk_cell BK167.out 12).trans rfl, (blk_cell BK167.out 13).trans rfl, (blk_cell BK168.out 0).trans rfl, (blk_cell BK168.out 1).trans rfl, (blk_cell BK168.out 2).trans rfl, (blk_cell BK168.out 3).trans rfl, (blk_cell BK168.out 4).trans rfl, (blk_cell BK168.out 5).trans rfl, (blk_cell BK168.out 6).trans rfl, (blk_cell BK168.out 7).trans rfl, (blk_cell BK168.out 8).trans rfl, (blk_cell BK168.out 9).trans rfl, (blk_cell BK168.out 10).trans rfl, (blk_cell BK168.out 11).trans rfl, (blk_cell BK168.out 12).trans rfl, (blk_cell BK168.out 13).trans rfl⟩ (fun hHeld => ?_)
                              clear hK K
                              refine nQ (N := some 75) ?_
                              refine pQ (i := 6) (N := some 76) #[true, true, true, true, true, true, true] (by kernel_rfl) ?_
                              refine done_ (by kernel_rfl) ?_
                              try go_wp2
                              go_meet
                              case rel => exact ⟨_, ((t169 != t170)), (by first | rfl | (simp; done) | (simp [*]; done)), H', ⟨by have := HJ4.out; have := HJ17.out; have := HJ45.out; have := HJ59.out; first | omega | exact Nat.le_refl _⟩, ⟨by (with_reducible repeat (first | apply bkD | apply bkd | apply bkA)); exact BK130.out⟩, ⟨by (with_reducible repeat (first | apply bkD | apply bkd | apply bkA)); exact BK131.out⟩, ⟨by (with_reducible repeat (first | apply bkD | apply bkd | apply bkA)); exact BK167.out⟩, ⟨by (with_reducible repeat (first | apply bkD | apply bkd | apply bkA)); exact BK168.out⟩, ⟨bq HB⟩⟩
                            exact ax11
                          case rest =>
                            refine @id ?T12 ?_
                            let rec ax12 : ?T12 := by
                              clear ax12
                              clear HC74
                              try clear p2
                              try clear c3
                              try clear c7
                              try clear c8
                              try clear c33
                              try clear c34
                              try clear c35
                              try clear c72
                              try clear c78
                              try clear c79
                              try clear c80
                              try clear c82
                              try clear c83
                              try clear hfz10_0
                              try clear hfz11_0
                              try clear hfz22_0
                              try clear hfz23_0
                              try clear hfz28_0
                              try clear hfz29_0
                              try clear hfz33_0
                              try clear hfz34_0
                              try clear hfz36_0
                              try clear hfz40_0
                              try clear hfz41_0
                              try clear hfz43_0
                              try clear hfz51_0
                              try clear hfz53_0
                              try clear hfz56_0
                              try clear hfz63_0
                              try clear hfz64_0
                              try clear hfz67_0
                              try clear hfz68_0
                              try clear hfz70_0
                              try clear hfz71_0
                              try clear hfz81_0
                              try clear hfz84_0
                              try clear p2
                              obtain ⟨kq, x76_73, rfl, HA, HJ73, BK130, BK131, BK167, BK168, HB⟩ := hcut
                              cases kq with
                              | zero => exact absurd HA.out (by simp [laws_FnBefore.j4])
                              | succ kj73 =>
                                have H := HA.out
                                clear HA
                                simp only [laws_FnBefore.j4] at H
                                by_cases c91 : x76_73 = true
                                · subst c91
                                  have H1 : (some false) = some r := by rw [if_pos rfl] at H; exact H
                                  clear H
                                  have H := H1
                                  clear H1
                                  exact absurd ((Option.some.inj H).trans HRT.out) Bool.false_ne_true
                                replace c91 := Bool.eq_false_iff.mpr c91
                                subst c91
                                have H1 : (if x5_4 = true then ((impl_Before.f kj73 t116 t117 t118 t119 t120 t121 t122 t123 t124 t125 t126 t127 t128 t129 t139 t140 t141 t142 t143 t144 t145 t146 t147 t148 t149 t150 t151 t152).bind fun t171 => (if t171 = true then ((impl_Before.f kj73 t102 t103 t104 t105 t106 t107 t108 t109 t110 t111 t112 t113 t114 t115 t139 t140 t141 t142 t143 t144 t145 t146 t147 t148 t149 t150 t151 t152).bind fun t172 => (some t172)) else (some true))) else (some true)) = some r := by rw [if_neg (show ¬ (false = true) by decide)] at H; exact H
                                clear H
                                have H := H1
                                clear H1
                                by_cases c92 : x5_4 = true
                                · subst c92
                                  have H1 : ((impl_Before.f kj73 t116 t117 t118 t119 t120 t121 t122 t123 t124 t125 t126 t127 t128 t129 t139 t140 t141 t142 t143 t144 t145 t146 t147 t148 t149 t150 t151 t152).bind fun t171 => (if t171 = true then ((impl_Before.f kj73 t102 t103 t104 t105 t106 t107 t108 t109 t110 t111 t112 t113 t114 t115 t139 t140 t141 t142 t143 t144 t145 t146 t147 t148 t149 t150 t151 t152).bind fun t172 => (some t172)) else (some true))) = some r := by rw [if_pos rfl] at H; exact H
                                  clear H
                                  have H := H1
                                  clear H1
                                  replace H := Option.bind_eq_some_iff.mp H
                                  obtain ⟨t171, A930, H⟩ := H
                                  replace H : (if t171 = true then ((impl_Before.f kj73 t102 t103 t104 t105 t106 t107 t108 t109 t110 t111 t112 t113 t114 t115 t139 t140 t141 t142 t143 t144 t145 t146 t147 t148 t149 t150 t151 t152).bind fun t172 => (some t172)) else (some true)) = some r := H
                                  have A93 := Aside0.mk A930
                                  clear A930
                                  by_cases c94 : t171 = true
                                  · subst c94
                                    have H1 : ((impl_Before.f kj73 t102 t103 t104 t105 t106 t107 t108 t109 t110 t111 t112 t113 t114 t115 t139 t140 t141 t142 t143 t144 t145 t146 t147 t148 t149 t150 t151 t152).bind fun t172 => (some t172)) = some r := by rw [if_pos rfl] at H; exact H
                                    clear H
                                    have H := H1
                                    clear H1
                                    replace H := Option.bind_eq_some_iff.mp H
                                    obtain ⟨t172, A950, H⟩ := H
                                    replace H : (some t172) = some r := H
                                    have A95 := Aside0.mk A950
                                    clear A950
                                    obtain rfl := Option.some.inj H
                                    have hnb96 := NB131_130.out
                                    have hnc96 := NB130_131.out
                                    have hnb97 := NB131_167.out
                                    have hnc97 := NB167_131.out
                                    have hnb98 := NB131_168.out
                                    have hnc98 := NB168_131.out
                                    obtain ⟨_,_,_,_,_,_,_,_,_,_,_,_,_,_⟩ := cz14 BK131.out
                                    have hfz99_0 := blk_frozen BK131.out
                                    have hnb100 := NB167_130.out
                                    have hnc100 := NB130_167.out
                                    have hnb101 := NB167_168.out
                                    have hnc101 := NB168_167.out
                                    obtain ⟨_,_,_,_,_,_,_,_,_,_,_,_,_,_⟩ := cz14 BK167.out
                                    have hfz102_0 := blk_frozen BK167.out
                                    go_wp2_with (first | (go_at_call 31; (with_reducible refine (impl_Before.calls kj73 t116 t117 t118 t119 t120 t121 t122 t123 t124 t125 t126 t127 t128 t129 t139 t140 t141 t142 t143 t144 t145 t146 t147 t148 t149 t150 t151 t152 true _ A93.out).mono ?_); rintro e w103 ⟨rfl, hb⟩; have n0_ := aM (blk_below (kq BK130) hb); have n1_ := aM (blk_below (kq BK131) hb); have n2_ := aM (blk_below (kq BK167) hb); have n3_ := aM (blk_below (kq BK168) hb); have n4_ := aM (below_step (bq HB) hb); clear BK130 BK131 BK167 BK168 HB; have BK130 := n0_; have BK131 := n1_; have BK167 := n2_; have BK168 := n3_; have HB := n4_; clear n0_ n1_ n2_ n3_ n4_; (try clear hb); (try clear hb2); (try clear hk); (try clear hi); have hnb104 := NB130_168.out; have hnc104 := NB168_130.out; obtain ⟨_,_,_,_,_,_,_,_,_,_,_,_,_,_⟩ := cz14 BK130.out; have hfz105_0 := blk_frozen BK130.out; obtain ⟨_,_,_,_,_,_,_,_,_,_,_,_,_,_⟩ := cz14 BK167.out; have hfz106_0 := blk_frozen BK167.out) | (go_at_call 31; (with_reducible refine (impl_Before.calls kj73 t102 t103 t104 t105 t106 t107 t108 t109 t110 t111 t112 t113 t114 t115 t139 t140 t141 t142 t143 t144 t145 t146 t147 t148 t149 t150 t151 t152 t172 _ A95.out).mono ?_); rintro e w107 ⟨rfl, hb⟩; have n0_ := aM (blk_below (kq BK130) hb); have n1_ := aM (blk_below (kq BK131) hb); have n2_ := aM (blk_below (kq BK167) hb); have n3_ := aM (blk_below (kq BK168) hb); have n4_ := aM (below_step (bq HB) hb); clear BK130 BK131 BK167 BK168 HB; have BK130 := n0_; have BK131 := n1_; have BK167 := n2_; have BK168 := n3_; have HB := n4_; clear n0_ n1_ n2_ n3_ n4_; (try clear hb); (try clear hb2); (try clear hk); (try clear hi)))
                                    all_goals go_ret
                                    all_goals exact ⟨by first | rfl | (simp <;> rfl) | (simp [*] <;> rfl), bq HB⟩
                                  replace c94 := Bool.eq_false_iff.mpr c94
                                  subst c94
                                  have H1 : (some true) = some r := by rw [if_neg (show ¬ (false = true) by decide)] at H; exact H
                                  clear H
                                  have H := H1
                                  clear H1
                                  obtain rfl := Option.some.inj H
                                  have hnb108 := NB131_130.out
                                  have hnc108 := NB130_131.out
                                  have hnb109 := NB131_167.out
                                  have hnc109 := NB167_131.out
                                  have hnb110 := NB131_168.out
                                  have hnc110 := NB168_131.out
                                  obtain ⟨_,_,_,_,_,_,_,_,_,_,_,_,_,_⟩ := cz14 BK131.out
                                  have hfz111_0 := blk_frozen BK131.out
                                  have hnb112 := NB167_130.out
                                  have hnc112 := NB130_167.out
                                  have hnb113 := NB167_168.out
                                  have hnc113 := NB168_167.out
                                  obtain ⟨_,_,_,_,_,_,_,_,_,_,_,_,_,_⟩ := cz14 BK167.out
                                  have hfz114_0 := blk_frozen BK167.out
                                  go_wp2_with (first | (go_at_call 31; (with_reducible refine (impl_Before.calls kj73 t116 t117 t118 t119 t120 t121 t122 t123 t124 t125 t126 t127 t128 t129 t139 t140 t141 t142 t143 t144 t145 t146 t147 t148 t149 t150 t151 t152 false _ A93.out).mono ?_); rintro e w115 ⟨rfl, hb⟩; have n0_ := aM (blk_below (kq BK130) hb); have n1_ := aM (blk_below (kq BK131) hb); have n2_ := aM (blk_below (kq BK167) hb); have n3_ := aM (blk_below (kq BK168) hb); have n4_ := aM (below_step (bq HB) hb); clear BK130 BK131 BK167 BK168 HB; have BK130 := n0_; have BK131 := n1_; have BK167 := n2_; have BK168 := n3_; have HB := n4_; clear n0_ n1_ n2_ n3_ n4_; (try clear hb); (try clear hb2); (try clear hk); (try clear hi)))
                                  all_goals go_ret
                                  all_goals exact ⟨by first | rfl | (simp <;> rfl) | (simp [*] <;> rfl), bq HB⟩
                                replace c92 := Bool.eq_false_iff.mpr c92
                                subst c92
                                have H1 : (some true) = some r := by rw [if_neg (show ¬ (false = true) by decide)] at H; exact H
                                clear H
                                have H := H1
                                clear H1
                                obtain rfl := Option.some.inj H
                                go_wp2
                                all_goals go_ret
                                all_goals exact ⟨by first | rfl | (simp <;> rfl) | (simp [*] <;> rfl), bq HB⟩

                            exact ax12
                      exact ax10
                exact ax7
          exact ax5
    exact ax2
/-- THE ONE PURE STATEMENT of laws_FnBefore: yours. -/
def laws_FnBefore.Pure : Prop := ∀ (l0 : List Int), l0.length ≤ maxLen → l0.length * 1 ≤ 140737488351232 → (∀ x ∈ l0, (Lit.int .u8 x).wf = true) → ∃ k, laws_FnBefore.f k l0 = some true
theorem laws_FnBefore.walk (P : laws_FnBefore.Pure) (a0 : Option Addr) (len0 cap0 : Nat) (z0 : List Int) (w : World) (w0 : (a0 = none ∧ len0 = 0 ∧ cap0 = 0 ∧ z0 = []) ∨ ∃ x, a0 = some x ∧ len0 ≤ cap0 ∧ cap0 ≤ maxLen ∧ z0.length = cap0 ∧ (∀ i, i < z0.length → w.cell? (x.add i) = some (.int .u8 (z0.getD i 0))) ∧ ∀ n ∈ z0, (Lit.int .u8 n).wf = true) (y0 : len0 * 1 ≤ 140737488351232) :
    Calls Try.prog 6 #[.slice a0 len0 cap0] w fun e w' => e = .returned (.bool true) ∧ Below w.heap.size w w' := by
  obtain ⟨l0, rfl, hr0, hm0, hw0, hc0⟩ := ReadsInt.ofRowC w0
  obtain ⟨k, h⟩ := P l0 hm0 y0 hw0
  refine (laws_FnBefore.calls k _ _ l0 true w (Kd.C_of_reads (d := (0 : Int)) (h1 := fun _ => rfl) hr0) hc0 rfl h).mono ?_
  rintro e w' ⟨rfl, hd⟩
  exact ⟨rfl, hd⟩

end Go.Proofs.Ytphkgmdbdnjmbaa.Print
