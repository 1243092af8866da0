/- Go functions as plain functions, and that the Go code answers as these. Printed by wip/patch.py. -/
import Derived.Test.YtlneecichgimpaaPrint0
import Derived.Test.YtlneecichgimpaaPrintLawsBig
import Derived.Test.YtlneecichgimpaaPrintSpecL3DrawRight
namespace Go.Proofs.Ytlneecichgimpaa.Print
open Go.RowKit Go.Proofs.Ytlneecichgimpaa.Base Go.Proofs.YtlneecichgimpaaW.PrintWords Go.Proofs.YtlneecichgimpaaW.PrintLast Go.Proofs.YtlneecichgimpaaW.PrintMore
attribute [local go_sem] max2_int min2_int max_two min_two max_three min_three max_four min_four
set_option linter.all false

/-! ### spec_l3Draw: function 34 -/
def spec_l3Draw.j0 : Nat → List Int → Int → Int → Int → Int → Int → Int → Bool → Int → Int → Int → Int → Int → Int → Int → Int → Int → Option (Int × Int × Int × Int × Bool × Int × Int × Int × Int × Int × Int × Int × Int × Int × Int × Int)
  | 0, _, _, _, _, _, _, _, _, _, _, _, _, _, _, _, _, _ => none
  | k + 1, x1000, x1001, x1002, x119000, x119001, x119002, x119003, x119004, x119005, x119006, x119007, x119008, x119009, x119010, x119011, x119012, x119013 => some (x119000, x119001, x119002, x119003, x119004, x119005, x119006, x119007, x119008, x119009, x119010, x119011, x119012, x119013, x1001, x1002)
def spec_l3Draw.f (k : Nat) (s0_0 : List Int) (s0_1 : Int) (s0_2 : Int) : Option (Int × Int × Int × Int × Bool × Int × Int × Int × Int × Int × Int × Int × Int × Int × Int × Int) := (spec_l3DrawRight.f k s0_0 s0_1 s0_2).bind fun bt102 => ((spec_l1Below.f s0_0 bt102.2.2.2.2.2.2.2.2.2.2.2.2.2.2.1 bt102.2.2.2.2.2.2.2.2.2.2.2.2.2.2.2 25).bind fun bt119 => (if bt119.1 = 0 then ((spec_l1PickInt.f s0_0 bt119.2.1 bt119.2.2 (([0, 1000, 1001] : List Int))).bind fun bt125 => (spec_l3Draw.j0 k s0_0 bt125.2.1 bt125.2.2 bt125.1 bt102.2.1 bt102.2.2.1 bt102.2.2.2.1 bt102.2.2.2.2.1 bt102.2.2.2.2.2.1 bt102.2.2.2.2.2.2.1 bt102.2.2.2.2.2.2.2.1 bt102.2.2.2.2.2.2.2.2.1 bt102.2.2.2.2.2.2.2.2.2.1 bt102.2.2.2.2.2.2.2.2.2.2.1 bt102.2.2.2.2.2.2.2.2.2.2.2.1 bt102.2.2.2.2.2.2.2.2.2.2.2.2.1 bt102.2.2.2.2.2.2.2.2.2.2.2.2.2.1)) else (if bt119.1 = 1 then ((spec_l1PickInt.f s0_0 bt119.2.1 bt119.2.2 (([(-1), 3, 4] : List Int))).bind fun bt131 => (spec_l3Draw.j0 k s0_0 bt131.2.1 bt131.2.2 bt102.1 bt102.2.1 bt131.1 bt102.2.2.2.1 bt102.2.2.2.2.1 bt102.2.2.2.2.2.1 bt102.2.2.2.2.2.2.1 bt102.2.2.2.2.2.2.2.1 bt102.2.2.2.2.2.2.2.2.1 bt102.2.2.2.2.2.2.2.2.2.1 bt102.2.2.2.2.2.2.2.2.2.2.1 bt102.2.2.2.2.2.2.2.2.2.2.2.1 bt102.2.2.2.2.2.2.2.2.2.2.2.2.1 bt102.2.2.2.2.2.2.2.2.2.2.2.2.2.1)) else (if bt119.1 = 2 then ((spec_l1Below.f s0_0 bt119.2.1 bt119.2.2 4).bind fun bt134 => (spec_l3Draw.j0 k s0_0 bt134.2.1 bt134.2.2 bt102.1 bt102.2.1 bt102.2.2.1 bt134.1 bt102.2.2.2.2.1 bt102.2.2.2.2.2.1 bt102.2.2.2.2.2.2.1 bt102.2.2.2.2.2.2.2.1 bt102.2.2.2.2.2.2.2.2.1 bt102.2.2.2.2.2.2.2.2.2.1 bt102.2.2.2.2.2.2.2.2.2.2.1 bt102.2.2.2.2.2.2.2.2.2.2.2.1 bt102.2.2.2.2.2.2.2.2.2.2.2.2.1 bt102.2.2.2.2.2.2.2.2.2.2.2.2.2.1)) else (if bt119.1 = 3 then ((spec_l1Below.f s0_0 bt119.2.1 bt119.2.2 5).bind fun bt137 => (spec_l3Draw.j0 k s0_0 bt137.2.1 bt137.2.2 bt102.1 bt137.1 bt102.2.2.1 bt102.2.2.2.1 bt102.2.2.2.2.1 bt102.2.2.2.2.2.1 bt102.2.2.2.2.2.2.1 bt102.2.2.2.2.2.2.2.1 bt102.2.2.2.2.2.2.2.2.1 bt102.2.2.2.2.2.2.2.2.2.1 bt102.2.2.2.2.2.2.2.2.2.2.1 bt102.2.2.2.2.2.2.2.2.2.2.2.1 bt102.2.2.2.2.2.2.2.2.2.2.2.2.1 bt102.2.2.2.2.2.2.2.2.2.2.2.2.2.1)) else (if bt119.1 = 4 then ((spec_l1Below.f s0_0 bt119.2.1 bt119.2.2 14).bind fun bt140 => (spec_l3Draw.j0 k s0_0 bt140.2.1 bt140.2.2 bt102.1 bt102.2.1 bt102.2.2.1 bt102.2.2.2.1 bt102.2.2.2.2.1 bt102.2.2.2.2.2.1 bt102.2.2.2.2.2.2.1 (wrap64 (bt140.1 - 2)) bt102.2.2.2.2.2.2.2.2.1 bt102.2.2.2.2.2.2.2.2.2.1 bt102.2.2.2.2.2.2.2.2.2.2.1 bt102.2.2.2.2.2.2.2.2.2.2.2.1 bt102.2.2.2.2.2.2.2.2.2.2.2.2.1 bt102.2.2.2.2.2.2.2.2.2.2.2.2.2.1)) else (if bt119.1 = 5 then ((spec_l1PickInt.f s0_0 bt119.2.1 bt119.2.2 (([(-1), 5, 100040, 100041] : List Int))).bind fun bt146 => (spec_l3Draw.j0 k s0_0 bt146.2.1 bt146.2.2 bt102.1 bt102.2.1 bt102.2.2.1 bt102.2.2.2.1 bt102.2.2.2.2.1 bt102.2.2.2.2.2.1 bt102.2.2.2.2.2.2.1 bt102.2.2.2.2.2.2.2.1 bt146.1 bt102.2.2.2.2.2.2.2.2.2.1 bt102.2.2.2.2.2.2.2.2.2.2.1 bt102.2.2.2.2.2.2.2.2.2.2.2.1 bt102.2.2.2.2.2.2.2.2.2.2.2.2.1 bt102.2.2.2.2.2.2.2.2.2.2.2.2.2.1)) else (if bt119.1 = 6 then ((spec_l1PickInt.f s0_0 bt119.2.1 bt119.2.2 (([(-1), 5, 100000000, 100000001, 99999990] : List Int))).bind fun bt152 => (spec_l3Draw.j0 k s0_0 bt152.2.1 bt152.2.2 bt102.1 bt102.2.1 bt102.2.2.1 bt102.2.2.2.1 bt102.2.2.2.2.1 bt102.2.2.2.2.2.1 bt102.2.2.2.2.2.2.1 bt102.2.2.2.2.2.2.2.1 bt102.2.2.2.2.2.2.2.2.1 bt102.2.2.2.2.2.2.2.2.2.1 bt102.2.2.2.2.2.2.2.2.2.2.1 bt102.2.2.2.2.2.2.2.2.2.2.2.1 bt102.2.2.2.2.2.2.2.2.2.2.2.2.1 bt152.1)) else (if bt119.1 = 7 then ((spec_l1Below.f s0_0 bt119.2.1 bt119.2.2 22).bind fun bt155 => (spec_l3Draw.j0 k s0_0 bt155.2.1 bt155.2.2 bt102.1 bt102.2.1 bt102.2.2.1 bt102.2.2.2.1 bt102.2.2.2.2.1 bt102.2.2.2.2.2.1 bt102.2.2.2.2.2.2.1 bt102.2.2.2.2.2.2.2.1 bt102.2.2.2.2.2.2.2.2.1 bt155.1 bt102.2.2.2.2.2.2.2.2.2.2.1 bt102.2.2.2.2.2.2.2.2.2.2.2.1 bt102.2.2.2.2.2.2.2.2.2.2.2.2.1 bt102.2.2.2.2.2.2.2.2.2.2.2.2.2.1)) else (spec_l3Draw.j0 k s0_0 bt119.2.1 bt119.2.2 bt102.1 bt102.2.1 bt102.2.2.1 bt102.2.2.2.1 bt102.2.2.2.2.1 bt102.2.2.2.2.2.1 bt102.2.2.2.2.2.2.1 bt102.2.2.2.2.2.2.2.1 bt102.2.2.2.2.2.2.2.2.1 bt102.2.2.2.2.2.2.2.2.2.1 bt102.2.2.2.2.2.2.2.2.2.2.1 bt102.2.2.2.2.2.2.2.2.2.2.2.1 bt102.2.2.2.2.2.2.2.2.2.2.2.2.1 bt102.2.2.2.2.2.2.2.2.2.2.2.2.2.1))))))))))
theorem spec_l3Draw.mono_l : ∀ k, (∀ y0 y1 y2 y3 y4 y5 y6 y7 y8 y9 y10 y11 y12 y13 y14 y15 y16, LeO (spec_l3Draw.j0 k y0 y1 y2 y3 y4 y5 y6 y7 y8 y9 y10 y11 y12 y13 y14 y15 y16) (spec_l3Draw.j0 (k + 1) y0 y1 y2 y3 y4 y5 y6 y7 y8 y9 y10 y11 y12 y13 y14 y15 y16))
  | 0 => fun _ _ _ _ _ _ _ _ _ _ _ _ _ _ _ _ _ r h => by simp [spec_l3Draw.j0] at h
  | k + 1 => by
    have ih0 := spec_l3Draw.mono_l k
    intro y0 y1 y2 y3 y4 y5 y6 y7 y8 y9 y10 y11 y12 y13 y14 y15 y16
    unfold spec_l3Draw.j0
    repeat' first
    | (with_reducible exact ih0 _ _ _ _ _ _ _ _ _ _ _ _ _ _ _ _ _)
    | (with_reducible exact spec_l3DrawRight.mono _ _ _ _)
    | (with_reducible exact LeO.refl _)
    | (with_reducible exact LeO.none _)
    | (with_reducible refine LeO.ite ?_ ?_)
    | (with_reducible refine LeO.bind ?_ (fun _ => ?_))
theorem spec_l3Draw.mono : ∀ a0 a1 a2 k, LeO (spec_l3Draw.f k a0 a1 a2) (spec_l3Draw.f (k + 1) a0 a1 a2) := by
  intro a0 a1 a2 k
  have ih0 := spec_l3Draw.mono_l k
  unfold spec_l3Draw.f
  repeat' first
      | (with_reducible exact ih0 _ _ _ _ _ _ _ _ _ _ _ _ _ _ _ _ _)
      | (with_reducible exact spec_l3DrawRight.mono _ _ _ _)
      | (with_reducible exact LeO.refl _)
      | (with_reducible exact LeO.none _)
      | (with_reducible refine LeO.ite ?_ ?_)
      | (with_reducible refine LeO.bind ?_ (fun _ => ?_))
set_option maxHeartbeats 8000000 in
set_option maxRecDepth 100000 in
theorem spec_l3Draw.calls (k : Nat) (g : Nat) (s0_0 : List Int) (s0_1 : Int) (s0_2 : Int) (r1 : Int) (r2 : Int) (r3 : Int) (r4 : Int) (r5 : Bool) (r6 : Int) (r7 : Int) (r8 : Int) (r9 : Int) (r10 : Int) (r11 : Int) (r12 : Int) (r13 : Int) (r14 : Int) (r15 : Int) (r16 : Int) (w0 w : World) (hI : IsS43 w0 w g s0_0 s0_1 s0_2) (hB : Below w0.heap.size w0 w) (h : spec_l3Draw.f k s0_0 s0_1 s0_2 = some (r1, r2, r3, r4, r5, r6, r7, r8, r9, r10, r11, r12, r13, r14, r15, r16)) :
    Calls Try.prog 34 #[.pointer (some ⟨g, 0, none⟩)] w fun e w' => e = .returned (.agg #[.int .i64 r1, .int .i64 r2, .int .i64 r3, .int .i64 r4, .bool r5, .int .i64 r6, .int .i64 r7, .int .i64 r8, .int .i64 r9, .int .i64 r10, .int .i64 r11, .int .i64 r12, .int .i64 r13, .int .i64 r14]) ∧ IsS43 w0 w' g s0_0 r15 r16 ∧ Below w0.heap.size w0 w' ∧ KeepBut w w' g none := by
  have hu25 := Try.underlying25
  have HI0 := Aside0.mk hI
  have HK := aM (KeepBut.refl w g none)
  have HL := Aside0.mk hB.size
  clear hI
  have HW0 := Aside0.mk hB.size
  have HB := Aside0.mk hB
  clear hB
  have H : ((spec_l3DrawRight.f k s0_0 s0_1 s0_2).bind fun bt102 => ((spec_l1Below.f s0_0 bt102.2.2.2.2.2.2.2.2.2.2.2.2.2.2.1 bt102.2.2.2.2.2.2.2.2.2.2.2.2.2.2.2 25).bind fun bt119 => (if bt119.1 = 0 then ((spec_l1PickInt.f s0_0 bt119.2.1 bt119.2.2 (([0, 1000, 1001] : List Int))).bind fun bt125 => (spec_l3Draw.j0 k s0_0 bt125.2.1 bt125.2.2 bt125.1 bt102.2.1 bt102.2.2.1 bt102.2.2.2.1 bt102.2.2.2.2.1 bt102.2.2.2.2.2.1 bt102.2.2.2.2.2.2.1 bt102.2.2.2.2.2.2.2.1 bt102.2.2.2.2.2.2.2.2.1 bt102.2.2.2.2.2.2.2.2.2.1 bt102.2.2.2.2.2.2.2.2.2.2.1 bt102.2.2.2.2.2.2.2.2.2.2.2.1 bt102.2.2.2.2.2.2.2.2.2.2.2.2.1 bt102.2.2.2.2.2.2.2.2.2.2.2.2.2.1)) else (if bt119.1 = 1 then ((spec_l1PickInt.f s0_0 bt119.2.1 bt119.2.2 (([(-1), 3, 4] : List Int))).bind fun bt131 => (spec_l3Draw.j0 k s0_0 bt131.2.1 bt131.2.2 bt102.1 bt102.2.1 bt131.1 bt102.2.2.2.1 bt102.2.2.2.2.1 bt102.2.2.2.2.2.1 bt102.2.2.2.2.2.2.1 bt102.2.2.2.2.2.2.2.1 bt102.2.2.2.2.2.2.2.2.1 bt102.2.2.2.2.2.2.2.2.2.1 bt102.2.2.2.2.2.2.2.2.2.2.1 bt102.2.2.2.2.2.2.2.2.2.2.2.1 bt102.2.2.2.2.2.2.2.2.2.2.2.2.1 bt102.2.2.2.2.2.2.2.2.2.2.2.2.2.1)) else (if bt119.1 = 2 then ((spec_l1Below.f s0_0 bt119.2.1 bt119.2.2 4).bind fun bt134 => (spec_l3Draw.j0 k s0_0 bt134.2.1 bt134.2.2 bt102.1 bt102.2.1 bt102.2.2.1 bt134.1 bt102.2.2.2.2.1 bt102.2.2.2.2.2.1 bt102.2.2.2.2.2.2.1 bt102.2.2.2.2.2.2.2.1 bt102.2.2.2.2.2.2.2.2.1 bt102.2.2.2.2.2.2.2.2.2.1 bt102.2.2.2.2.2.2.2.2.2.2.1 bt102.2.2.2.2.2.2.2.2.2.2.2.1 bt102.2.2.2.2.2.2.2.2.2.2.2.2.1 bt102.2.2.2.2.2.2.2.2.2.2.2.2.2.1)) else (if bt119.1 = 3 then ((spec_l1Below.f s0_0 bt119.2.1 bt119.2.2 5).bind fun bt137 => (spec_l3Draw.j0 k s0_0 bt137.2.1 bt137.2.2 bt102.1 bt137.1 bt102.2.2.1 bt102.2.2.2.1 bt102.2.2.2.2.1 bt102.2.2.2.2.2.1 bt102.2.2.2.2.2.2.1 bt102.2.2.2.2.2.2.2.1 bt102.2.2.2.2.2.2.2.2.1 bt102.2.2.2.2.2.2.2.2.2.1 bt102.2.2.2.2.2.2.2.2.2.2.1 bt102.2.2.2.2.2.2.2.2.2.2.2.1 bt102.2.2.2.2.2.2.2.2.2.2.2.2.1 bt102.2.2.2.2.2.2.2.2.2.2.2.2.2.1)) else (if bt119.1 = 4 then ((spec_l1Below.f s0_0 bt119.2.1 bt119.2.2 14).bind fun bt140 => (spec_l3Draw.j0 k s0_0 bt140.2.1 bt140.2.2 bt102.1 bt102.2.1 bt102.2.2.1 bt102.2.2.2.1 bt102.2.2.2.2.1 bt102.2.2.2.2.2.1 bt102.2.2.2.2.2.2.1 (wrap64 (bt140.1 - 2)) bt102.2.2.2.2.2.2.2.2.1 bt102.2.2.2.2.2.2.2.2.2.1 bt102.2.2.2.2.2.2.2.2.2.2.1 bt102.2.2.2.2.2.2.2.2.2.2.2.1 bt102.2.2.2.2.2.2.2.2.2.2.2.2.1 bt102.2.2.2.2.2.2.2.2.2.2.2.2.2.1)) else (if bt119.1 = 5 then ((spec_l1PickInt.f s0_0 bt119.2.1 bt119.2.2 (([(-1), 5, 100040, 100041] : List Int))).bind fun bt146 => (spec_l3Draw.j0 k s0_0 bt146.2.1 bt146.2.2 bt102.1 bt102.2.1 bt102.2.2.1 bt102.2.2.2.1 bt102.2.2.2.2.1 bt102.2.2.2.2.2.1 bt102.2.2.2.2.2.2.1 bt102.2.2.2.2.2.2.2.1 bt146.1 bt102.2.2.2.2.2.2.2.2.2.1 bt102.2.2.2.2.2.2.2.2.2.2.1 bt102.2.2.2.2.2.2.2.2.2.2.2.1 bt102.2.2.2.2.2.2.2.2.2.2.2.2.1 bt102.2.2.2.2.2.2.2.2.2.2.2.2.2.1)) else (if bt119.1 = 6 then ((spec_l1PickInt.f s0_0 bt119.2.1 bt119.2.2 (([(-1), 5, 100000000, 100000001, 99999990] : List Int))).bind fun bt152 => (spec_l3Draw.j0 k s0_0 bt152.2.1 bt152.2.2 bt102.1 bt102.2.1 bt102.2.2.1 bt102.2.2.2.1 bt102.2.2.2.2.1 bt102.2.2.2.2.2.1 bt102.2.2.2.2.2.2.1 bt102.2.2.2.2.2.2.2.1 bt102.2.2.2.2.2.2.2.2.1 bt102.2.2.2.2.2.2.2.2.2.1 bt102.2.2.2.2.2.2.2.2.2.2.1 bt102.2.2.2.2.2.2.2.2.2.2.2.1 bt102.2.2.2.2.2.2.2.2.2.2.2.2.1 bt152.1)) else (if bt119.1 = 7 then ((spec_l1Below.f s0_0 bt119.2.1 bt119.2.2 22).bind fun bt155 => (spec_l3Draw.j0 k s0_0 bt155.2.1 bt155.2.2 bt102.1 bt102.2.1 bt102.2.2.1 bt102.2.2.2.1 bt102.2.2.2.2.1 bt102.2.2.2.2.2.1 bt102.2.2.2.2.2.2.1 bt102.2.2.2.2.2.2.2.1 bt102.2.2.2.2.2.2.2.2.1 bt155.1 bt102.2.2.2.2.2.2.2.2.2.2.1 bt102.2.2.2.2.2.2.2.2.2.2.2.1 bt102.2.2.2.2.2.2.2.2.2.2.2.2.1 bt102.2.2.2.2.2.2.2.2.2.2.2.2.2.1)) else (spec_l3Draw.j0 k s0_0 bt119.2.1 bt119.2.2 bt102.1 bt102.2.1 bt102.2.2.1 bt102.2.2.2.1 bt102.2.2.2.2.1 bt102.2.2.2.2.2.1 bt102.2.2.2.2.2.2.1 bt102.2.2.2.2.2.2.2.1 bt102.2.2.2.2.2.2.2.2.1 bt102.2.2.2.2.2.2.2.2.2.1 bt102.2.2.2.2.2.2.2.2.2.2.1 bt102.2.2.2.2.2.2.2.2.2.2.2.1 bt102.2.2.2.2.2.2.2.2.2.2.2.2.1 bt102.2.2.2.2.2.2.2.2.2.2.2.2.2.1))))))))))) = some (r1, r2, r3, r4, r5, r6, r7, r8, r9, r10, r11, r12, r13, r14, r15, r16) := h
  clear h
  replace H := Option.bind_eq_some_iff.mp H
  obtain ⟨⟨t102, t103, t104, t105, t106, t107, t108, t109, t110, t111, t112, t113, t114, t115, t116, t117⟩, A20, H⟩ := H
  replace H : ((spec_l1Below.f s0_0 t116 t117 25).bind fun bt119 => (if bt119.1 = 0 then ((spec_l1PickInt.f s0_0 bt119.2.1 bt119.2.2 (([0, 1000, 1001] : List Int))).bind fun bt125 => (spec_l3Draw.j0 k s0_0 bt125.2.1 bt125.2.2 bt125.1 t103 t104 t105 t106 t107 t108 t109 t110 t111 t112 t113 t114 t115)) else (if bt119.1 = 1 then ((spec_l1PickInt.f s0_0 bt119.2.1 bt119.2.2 (([(-1), 3, 4] : List Int))).bind fun bt131 => (spec_l3Draw.j0 k s0_0 bt131.2.1 bt131.2.2 t102 t103 bt131.1 t105 t106 t107 t108 t109 t110 t111 t112 t113 t114 t115)) else (if bt119.1 = 2 then ((spec_l1Below.f s0_0 bt119.2.1 bt119.2.2 4).bind fun bt134 => (spec_l3Draw.j0 k s0_0 bt134.2.1 bt134.2.2 t102 t103 t104 bt134.1 t106 t107 t108 t109 t110 t111 t112 t113 t114 t115)) else (if bt119.1 = 3 then ((spec_l1Below.f s0_0 bt119.2.1 bt119.2.2 5).bind fun bt137 => (spec_l3Draw.j0 k s0_0 bt137.2.1 bt137.2.2 t102 bt137.1 t104 t105 t106 t107 t108 t109 t110 t111 t112 t113 t114 t115)) else (if bt119.1 = 4 then ((spec_l1Below.f s0_0 bt119.2.1 bt119.2.2 14).bind fun bt140 => (spec_l3Draw.j0 k s0_0 bt140.2.1 bt140.2.2 t102 t103 t104 t105 t106 t107 t108 (wrap64 (bt140.1 - 2)) t110 t111 t112 t113 t114 t115)) else (if bt119.1 = 5 then ((spec_l1PickInt.f s0_0 bt119.2.1 bt119.2.2 (([(-1), 5, 100040, 100041] : List Int))).bind fun bt146 => (spec_l3Draw.j0 k s0_0 bt146.2.1 bt146.2.2 t102 t103 t104 t105 t106 t107 t108 t109 bt146.1 t111 t112 t113 t114 t115)) else (if bt119.1 = 6 then ((spec_l1PickInt.f s0_0 bt119.2.1 bt119.2.2 (([(-1), 5, 100000000, 100000001, 99999990] : List Int))).bind fun bt152 => (spec_l3Draw.j0 k s0_0 bt152.2.1 bt152.2.2 t102 t103 t104 t105 t106 t107 t108 t109 t110 t111 t112 t113 t114 bt152.1)) else (if bt119.1 = 7 then ((spec_l1Below.f s0_0 bt119.2.1 bt119.2.2 22).bind fun bt155 => (spec_l3Draw.j0 k s0_0 bt155.2.1 bt155.2.2 t102 t103 t104 t105 t106 t107 t108 t109 t110 bt155.1 t112 t113 t114 t115)) else (spec_l3Draw.j0 k s0_0 bt119.2.1 bt119.2.2 t102 t103 t104 t105 t106 t107 t108 t109 t110 t111 t112 t113 t114 t115)))))))))) = some (r1, r2, r3, r4, r5, r6, r7, r8, r9, r10, r11, r12, r13, r14, r15, r16) := H
  have A2 := Aside0.mk A20
  clear A20
  replace H := Option.bind_eq_some_iff.mp H
  obtain ⟨⟨t119, t120, t121⟩, A30, H⟩ := H
  replace H : (if t119 = 0 then ((spec_l1PickInt.f s0_0 t120 t121 (([0, 1000, 1001] : List Int))).bind fun bt125 => (spec_l3Draw.j0 k s0_0 bt125.2.1 bt125.2.2 bt125.1 t103 t104 t105 t106 t107 t108 t109 t110 t111 t112 t113 t114 t115)) else (if t119 = 1 then ((spec_l1PickInt.f s0_0 t120 t121 (([(-1), 3, 4] : List Int))).bind fun bt131 => (spec_l3Draw.j0 k s0_0 bt131.2.1 bt131.2.2 t102 t103 bt131.1 t105 t106 t107 t108 t109 t110 t111 t112 t113 t114 t115)) else (if t119 = 2 then ((spec_l1Below.f s0_0 t120 t121 4).bind fun bt134 => (spec_l3Draw.j0 k s0_0 bt134.2.1 bt134.2.2 t102 t103 t104 bt134.1 t106 t107 t108 t109 t110 t111 t112 t113 t114 t115)) else (if t119 = 3 then ((spec_l1Below.f s0_0 t120 t121 5).bind fun bt137 => (spec_l3Draw.j0 k s0_0 bt137.2.1 bt137.2.2 t102 bt137.1 t104 t105 t106 t107 t108 t109 t110 t111 t112 t113 t114 t115)) else (if t119 = 4 then ((spec_l1Below.f s0_0 t120 t121 14).bind fun bt140 => (spec_l3Draw.j0 k s0_0 bt140.2.1 bt140.2.2 t102 t103 t104 t105 t106 t107 t108 (wrap64 (bt140.1 - 2)) t110 t111 t112 t113 t114 t115)) else (if t119 = 5 then ((spec_l1PickInt.f s0_0 t120 t121 (([(-1), 5, 100040, 100041] : List Int))).bind fun bt146 => (spec_l3Draw.j0 k s0_0 bt146.2.1 bt146.2.2 t102 t103 t104 t105 t106 t107 t108 t109 bt146.1 t111 t112 t113 t114 t115)) else (if t119 = 6 then ((spec_l1PickInt.f s0_0 t120 t121 (([(-1), 5, 100000000, 100000001, 99999990] : List Int))).bind fun bt152 => (spec_l3Draw.j0 k s0_0 bt152.2.1 bt152.2.2 t102 t103 t104 t105 t106 t107 t108 t109 t110 t111 t112 t113 t114 bt152.1)) else (if t119 = 7 then ((spec_l1Below.f s0_0 t120 t121 22).bind fun bt155 => (spec_l3Draw.j0 k s0_0 bt155.2.1 bt155.2.2 t102 t103 t104 t105 t106 t107 t108 t109 t110 bt155.1 t112 t113 t114 t115)) else (spec_l3Draw.j0 k s0_0 t120 t121 t102 t103 t104 t105 t106 t107 t108 t109 t110 t111 t112 t113 t114 t115))))))))) = some (r1, r2, r3, r4, r5, r6, r7, r8, r9, r10, r11, r12, r13, r14, r15, r16) := H
  have A3 := Aside0.mk A30
  clear A30
  have HC4 := Aside0.mk H
  clear H
  go_enter Try.func34, Try.ntmps34
  go_upto_block 0 with (first | ((with_reducible refine gate_dst (N := 2) rfl ?_); refine bE (N := 2) (cs := tk14 0 0 0 0 false 0 0 0 0 0 0 0 0 0) (t := 25) ?_; intro gb101 hg w5 hbox hb; have n0_ := aM (IsS43.below (iq43 HI0) hb); have n1_ := aM (KeepBut.trans (kk HK) (KeepBut.of_below hb g none) (.inl rfl)); have n2_ := aM (below_step (bqs HB (IsS43.ge HI0.out)) hb); have n3_ := aM (hbox); have n4_ := aM ((by rw [hg]; exact (keep_size (w := w) (g := g) (row := none) (kk HK)) : w.heap.size ≤ gb101)); have n5_ := aM ((Nat.le_trans HW0.out (by rw [hg]; exact (keep_size (w := w) (g := g) (row := none) (kk HK)) : w.heap.size ≤ gb101) : w0.heap.size ≤ gb101)); have n6_ := aM ((by rw [hg]; exact Nat.ne_of_lt (IsS43.lt (show IsS43 w0 _ g s0_0 s0_1 s0_2 from iq43 HI0)) : g ≠ gb101)); have n7_ := aM ((by rw [hg]; exact Nat.ne_of_gt (IsS43.lt (show IsS43 w0 _ g s0_0 s0_1 s0_2 from iq43 HI0)) : gb101 ≠ g)); clear HI0 HK HB; have HI0 := n0_; have HK := n1_; have HB := n2_; have BK101 := n3_; have GW101 := n4_; have GE101 := n5_; have NB0_101 := n6_; have NB101_0 := n7_; clear n0_ n1_ n2_ n3_ n4_ n5_ n6_ n7_; clear hb hbox hg) | ((with_reducible refine gate_callee (f := 39) rfl ?_); refine gL (some 5) Try.func39 #[.pointer (some ⟨g, 0, none⟩)] ?_; (with_reducible refine (spec_l3DrawRight.calls k g s0_0 s0_1 s0_2 t102 t103 t104 t105 t106 t107 t108 t109 t110 t111 t112 t113 t114 t115 t116 t117 w0 _ ?side1 ?side2 A2.out).mono ?_); (case side1 => exact iq43 HI0); (case side2 => exact bqs HB (IsS43.ge HI0.out)); rintro e w6 ⟨rfl, hi, hb, hk⟩; refine ⟨_, rfl, ?_⟩; have n0_ := aM (KeepBut.blk hk (g' := gb101) (o := .cells (tk14 0 0 0 0 false 0 0 0 0 0 0 0 0 0) 25 (0, 0)) (kq BK101) NB101_0.out (by simp)); have n1_ := aM (KeepBut.trans (kk HK) hk (.inl rfl)); have n2_ := aM (hb); have n3_ := aM (hi); clear BK101 HK HB HI0; have BK101 := n0_; have HK := n1_; have HB := n2_; have HI0 := n3_; clear n0_ n1_ n2_ n3_; (try clear hb); (try clear hb2); (try clear hk); (try clear hi)) | ((with_reducible refine gate_dst (N := 3) rfl ?_); refine bE (N := 3) (cs := tk14 0 0 0 0 false 0 0 0 0 0 0 0 0 0) (t := 25) ?_; intro gb118 hg w7 hbox hb; have n0_ := aM (IsS43.below (iq43 HI0) hb); have n1_ := aM (blk_below (kq BK101) hb); have n2_ := aM (KeepBut.trans (kk HK) (KeepBut.of_below hb g none) (.inl rfl)); have n3_ := aM (below_step (bqs HB (IsS43.ge HI0.out)) hb); have n4_ := aM (hbox); have n5_ := aM ((by rw [hg]; exact (keep_size (w := w) (g := g) (row := none) (kk HK)) : w.heap.size ≤ gb118)); have n6_ := aM ((Nat.le_trans HW0.out (by rw [hg]; exact (keep_size (w := w) (g := g) (row := none) (kk HK)) : w.heap.size ≤ gb118) : w0.heap.size ≤ gb118)); have n7_ := aM ((by rw [hg]; exact Nat.ne_of_lt (blk_lt (kq BK101)) : gb101 ≠ gb118)); have n8_ := aM (n7_.out.symm); have n9_ := aM ((by rw [hg]; exact Nat.ne_of_lt (IsS43.lt (show IsS43 w0 _ g s0_0 t116 t117 from iq43 HI0)) : g ≠ gb118)); have n10_ := aM ((by rw [hg]; exact Nat.ne_of_gt (IsS43.lt (show IsS43 w0 _ g s0_0 t116 t117 from iq43 HI0)) : gb118 ≠ g)); clear HI0 BK101 HK HB; have HI0 := n0_; have BK101 := n1_; have HK := n2_; have HB := n3_; have BK118 := n4_; have GW118 := n5_; have GE118 := n6_; have NB101_118 := n7_; have NB118_101 := n8_; have NB0_118 := n9_; have NB118_0 := n10_; clear n0_ n1_ n2_ n3_ n4_ n5_ n6_ n7_ n8_ n9_ n10_; clear hb hbox hg; have hnb8 := NB118_101.out; have hnc8 := NB101_118.out; have hnb9 := NB118_0.out; have hnc9 := NB0_118.out; obtain ⟨_,_,_,_,_,_,_,_,_,_,_,_,_,_⟩ := cz14 BK118.out; have hfz10_0 := blk_frozen BK118.out) | ((with_reducible refine gate_callee (f := 37) rfl ?_); refine gL (some 7) Try.func37 #[.pointer (some ⟨g, 0, none⟩), .int .i64 25] ?_; (with_reducible refine (spec_l1Below.calls g s0_0 t116 t117 25 t119 t120 t121 w0 _ ?side1 ?side2 A3.out).mono ?_); (case side1 => exact iq43 HI0); (case side2 => exact bqs HB (IsS43.ge HI0.out)); rintro e w11 ⟨rfl, hi, hb, hk⟩; refine ⟨_, rfl, ?_⟩; have n0_ := aM (KeepBut.blk hk (g' := gb101) (o := .cells (tk14 0 0 0 0 false 0 0 0 0 0 0 0 0 0) 25 (0, 0)) (by refine far14 ?_ NB101_118.out; (with_reducible repeat (first | apply bkD | apply bkd | apply bkA)); exact BK101.out) NB101_0.out (by simp)); have n1_ := aM (KeepBut.blk hk (g' := gb118) (o := .cells (tk14 t102 t103 t104 t105 t106 t107 t108 t109 t110 t111 t112 t113 t114 t115) 25 (0, 0)) (by refine put14 (cs := tk14 0 0 0 0 false 0 0 0 0 0 0 0 0 0) ?_; (with_reducible repeat (first | apply bkD | apply bkd | apply bkA)); exact BK118.out) NB118_0.out (by simp)); have n2_ := aM (KeepBut.trans (kk HK) hk (.inl rfl)); have n3_ := aM (hb); have n4_ := aM (hi); clear BK101 BK118 HK HB HI0; have BK101 := n0_; have BK118 := n1_; have HK := n2_; have HB := n3_; have HI0 := n4_; clear n0_ n1_ n2_ n3_ n4_; (try clear hb); (try clear hb2); (try clear hk); (try clear hi)))
  (try simp only [Act.put, tA, tB, tC])
  go_cut [] (fun wc => ∃ (kq : Nat) (x1001_3 : Int) (x1002_3 : Int) (x119000_3 : Int) (x119001_3 : Int) (x119002_3 : Int) (x119003_3 : Int) (x119007_3 : Int) (x119008_3 : Int) (x119009_3 : Int) (x119013_3 : Int), Aside0 (spec_l3Draw.j0 kq s0_0 x1001_3 x1002_3 x119000_3 x119001_3 x119002_3 x119003_3 t106 t107 t108 x119007_3 x119008_3 x119009_3 t112 t113 t114 x119013_3 = some (r1, r2, r3, r4, r5, r6, r7, r8, r9, r10, r11, r12, r13, r14, r15, r16)) ∧ Aside0 (kq ≤ k) ∧ Aside0 (wc.heap[gb101]? = some (.cells #[.int .i64 0, .int .i64 0, .int .i64 0, .int .i64 0, .bool false, .int .i64 0, .int .i64 0, .int .i64 0, .int .i64 0, .int .i64 0, .int .i64 0, .int .i64 0, .int .i64 0, .int .i64 0] 25 (0, 0))) ∧ Aside0 (wc.heap[gb118]? = some (.cells #[.int .i64 x119000_3, .int .i64 x119001_3, .int .i64 x119002_3, .int .i64 x119003_3, .bool t106, .int .i64 t107, .int .i64 t108, .int .i64 x119007_3, .int .i64 x119008_3, .int .i64 x119009_3, .int .i64 t112, .int .i64 t113, .int .i64 t114, .int .i64 x119013_3] 25 (0, 0))) ∧ Aside0 (IsS43 w0 wc g s0_0 x1001_3 x1002_3) ∧ Aside0 (KeepBut w wc g none) ∧ Aside0 (Below w0.heap.size w0 wc))
  case first =>
    have H := HC4.out
    clear HC4
    by_cases c12 : t119 = 0
    · rw [if_pos c12] at H
      have c12b0 : (t119 == 0) = true := beq_iff_eq.mpr c12
      have c12b1 : (t119 != 0) = false := bne_eq_false_iff_eq.mpr c12
      clear c12
      (first | rw [c12b0] | (simp only [i64_w, i32_w]; rw [c12b0]) | skip)
      obtain ⟨y122, hy122⟩ : ∃ y_ : List Int, y_ = (([0, 1000, 1001] : List Int)) := ⟨_, rfl⟩
      replace H : ((spec_l1PickInt.f s0_0 t120 t121 y122).bind fun bt125 => (spec_l3Draw.j0 k s0_0 bt125.2.1 bt125.2.2 bt125.1 t103 t104 t105 t106 t107 t108 t109 t110 t111 t112 t113 t114 t115)) = some (r1, r2, r3, r4, r5, r6, r7, r8, r9, r10, r11, r12, r13, r14, r15, r16) := by first | (rw [hy122]; with_reducible exact H) | (have H2_ := (Option.bind_some _ _).symm.trans H; rw [hy122]; with_reducible exact H2_) | (have H2_ := (Option.bind_some _ _).symm.trans H; with_reducible exact H2_) | with_reducible exact H | (rw [hy122]; exact H) | exact H
      have Ny122 := Aside0.mk hy122
      clear hy122
      replace H := Option.bind_eq_some_iff.mp H
      obtain ⟨⟨t125, t126, t127⟩, A130, H⟩ := H
      replace H : (spec_l3Draw.j0 k s0_0 t126 t127 t125 t103 t104 t105 t106 t107 t108 t109 t110 t111 t112 t113 t114 t115) = some (r1, r2, r3, r4, r5, r6, r7, r8, r9, r10, r11, r12, r13, r14, r15, r16) := H
      have A13 := Aside0.mk A130
      clear A130
      have H' := Aside0.mk H
      clear H
      go_wp2_with (first | ((with_reducible refine gate_dst (N := 11) rfl ?_); refine Kd.R_lit (Kd.int .i64) _ 3 ?hg (N := 11) ?hd (xs := ([0, 1000, 1001] : List Int)) (inner := [.int .i64 0, .int .i64 1000, .int .i64 1001]) (ok := fun _ => True) (okp := fun _ => True) ?hr ?hp (fun _ hk => hk) trivial (Below.refl _ _) (Nat.le_refl _) (by simp) ?_; (case hd => rfl); (case hg => rfl); (case hr => first | (go_simp; done) | (go_simp; rfl)); (case hp => exact (Reps.one (show Kd.M (Kd.int .i64) _ _ _ 0 [.int .i64 0] from rfl) (Reps.one (show Kd.M (Kd.int .i64) _ _ _ 1000 [.int .i64 1000] from rfl) (Reps.one (show Kd.M (Kd.int .i64) _ _ _ 1001 [.int .i64 1001] from rfl) (Reps.none _ _))))); intro v123 w14 ho15 hb hg_ hnew_; clear hg_ hnew_; (first | rw [← Ny122.out] at ho15 | (simp only [Int.reduceToNat] at ho15; rw [← Ny122.out] at ho15)); have n0_ := aM (Kd.R_lower ho15 (keep_size (w := w) (g := g) (row := none) (kk HK))); have n1_ := aM (IsS43.below (iq43 HI0) hb); have n2_ := aM (blk_below (kq BK101) hb); have n3_ := aM (blk_below (kq BK118) hb); have n4_ := aM (KeepBut.trans (kk HK) (KeepBut.of_below hb g none) (.inl rfl)); have n5_ := aM (below_step (bqs HB (IsS43.ge HI0.out)) hb); clear HI0 BK101 BK118 HK HB; have HO124 := n0_; have HI0 := n1_; have BK101 := n2_; have BK118 := n3_; have HK := n4_; have HB := n5_; clear n0_ n1_ n2_ n3_ n4_ n5_; clear hb ho15; obtain ⟨Ao16, co16, eo16⟩ := Kd.R_slice HO124.out; subst eo16) | ((with_reducible refine gate_callee (f := 36) rfl ?_); refine gL (some 12) Try.func36 #[.pointer (some ⟨g, 0, none⟩), .slice Ao16 y122.length co16] ?_; (with_reducible refine (spec_l1PickInt.calls g s0_0 t120 t121 _ _ y122 t125 t126 t127 w0 _ ?side1 ?side2 ?side3 ?side4 ?side5 A13.out).mono ?_); (case side1 => exact iq43 HI0); (case side2 => exact bqs HB (IsS43.ge HI0.out)); (case side3 => exact cq (Kd.R_reads' HO124.out).2.2); (case side4 => exact (Kd.R_reads' HO124.out).2.1); (case side5 => exact far_slice (IsS43.own_ne HI0.out HO124.out (by decide))); rintro e w17 ⟨rfl, hi, hb, hk⟩; refine ⟨_, rfl, ?_⟩; have n0_ := aM (KeepBut.blk hk (g' := gb101) (o := .cells (tk14 0 0 0 0 false 0 0 0 0 0 0 0 0 0) 25 (0, 0)) (kq BK101) NB101_0.out (by simp)); have n1_ := aM (KeepBut.blk hk (g' := gb118) (o := .cells (tk14 t102 t103 t104 t105 t106 t107 t108 t109 t110 t111 t112 t113 t114 t115) 25 (0, 0)) (kq BK118) NB118_0.out (by simp)); have n2_ := aM (Kd.R_mono (Kd.R_keep (IsS43.apart (show IsS43 w0 _ g s0_0 t120 t121 from iq43 HI0) (rq HO124) (by decide)) hk (fun _ h => h.2)) (fun _ h => h.1)); have n3_ := aM (KeepBut.trans (kk HK) hk (.inl rfl)); have n4_ := aM (hb); have n5_ := aM (hi); clear BK101 BK118 HO124 HK HB HI0; have BK101 := n0_; have BK118 := n1_; have HO124 := n2_; have HK := n3_; have HB := n4_; have HI0 := n5_; clear n0_ n1_ n2_ n3_ n4_ n5_; (try clear hb); (try clear hb2); (try clear hk); (try clear hi); have hnb18 := NB118_101.out; have hnc18 := NB101_118.out; have hnb19 := NB118_0.out; have hnc19 := NB0_118.out; obtain ⟨_,_,_,_,_,_,_,_,_,_,_,_,_,_⟩ := cz14 BK118.out; have hfz20_0 := blk_frozen BK118.out))
      go_meet
      case rel => exact ⟨_, (t126), (t127), (t125), (t103), (t104), (t105), (t109), (t110), (t111), (t115), H', ⟨by first | omega | exact Nat.le_refl _⟩, ⟨by (with_reducible repeat (first | apply bkD | apply bkd | apply bkA)); refine blk_far ?_ NB101_118.out _; (with_reducible repeat (first | apply bkD | apply bkd | apply bkA)); exact BK101.out⟩, ⟨by (with_reducible repeat (first | apply bkD | apply bkd | apply bkA)); refine blk_put (cs := tk14 t102 t103 t104 t105 t106 t107 t108 t109 t110 t111 t112 t113 t114 t115) ?_ 0 _ rfl; (with_reducible repeat (first | apply bkD | apply bkd | apply bkA)); exact BK118.out⟩, ⟨iq43 HI0⟩, ⟨kk HK⟩, ⟨bqs HB (IsS43.ge HI0.out)⟩⟩
    rw [if_neg c12] at H
    have c12b0 : (t119 == 0) = false := beq_eq_false_iff_ne.mpr c12
    have c12b1 : (t119 != 0) = true := bne_iff_ne.mpr c12
    (first | rw [c12b0] | (simp only [i64_w, i32_w]; rw [c12b0]) | skip)
    by_cases c21 : t119 = 1
    · rw [if_pos c21] at H
      have c21b0 : (t119 == 1) = true := beq_iff_eq.mpr c21
      have c21b1 : (t119 != 1) = false := bne_eq_false_iff_eq.mpr c21
      clear c21
      obtain ⟨y128, hy128⟩ : ∃ y_ : List Int, y_ = (([(-1), 3, 4] : List Int)) := ⟨_, rfl⟩
      replace H : ((spec_l1PickInt.f s0_0 t120 t121 y128).bind fun bt131 => (spec_l3Draw.j0 k s0_0 bt131.2.1 bt131.2.2 t102 t103 bt131.1 t105 t106 t107 t108 t109 t110 t111 t112 t113 t114 t115)) = some (r1, r2, r3, r4, r5, r6, r7, r8, r9, r10, r11, r12, r13, r14, r15, r16) := by first | (rw [hy128]; with_reducible exact H) | (have H2_ := (Option.bind_some _ _).symm.trans H; rw [hy128]; with_reducible exact H2_) | (have H2_ := (Option.bind_some _ _).symm.trans H; with_reducible exact H2_) | with_reducible exact H | (rw [hy128]; exact H) | exact H
      have Ny128 := Aside0.mk hy128
      clear hy128
      replace H := Option.bind_eq_some_iff.mp H
      obtain ⟨⟨t131, t132, t133⟩, A220, H⟩ := H
      replace H : (spec_l3Draw.j0 k s0_0 t132 t133 t102 t103 t131 t105 t106 t107 t108 t109 t110 t111 t112 t113 t114 t115) = some (r1, r2, r3, r4, r5, r6, r7, r8, r9, r10, r11, r12, r13, r14, r15, r16) := H
      have A22 := Aside0.mk A220
      clear A220
      have H' := Aside0.mk H
      clear H
      go_wp2_with (first | ((with_reducible refine gate_dst (N := 17) rfl ?_); refine Kd.R_lit (Kd.int .i64) _ 3 ?hg (N := 17) ?hd (xs := ([(-1), 3, 4] : List Int)) (inner := [.int .i64 (-1), .int .i64 3, .int .i64 4]) (ok := fun _ => True) (okp := fun _ => True) ?hr ?hp (fun _ hk => hk) trivial (Below.refl _ _) (Nat.le_refl _) (by simp) ?_; (case hd => rfl); (case hg => rfl); (case hr => first | (go_simp; done) | (go_simp; rfl)); (case hp => exact (Reps.one (show Kd.M (Kd.int .i64) _ _ _ (-1) [.int .i64 (-1)] from rfl) (Reps.one (show Kd.M (Kd.int .i64) _ _ _ 3 [.int .i64 3] from rfl) (Reps.one (show Kd.M (Kd.int .i64) _ _ _ 4 [.int .i64 4] from rfl) (Reps.none _ _))))); intro v129 w23 ho24 hb hg_ hnew_; clear hg_ hnew_; (first | rw [← Ny128.out] at ho24 | (simp only [Int.reduceToNat] at ho24; rw [← Ny128.out] at ho24)); have n0_ := aM (Kd.R_lower ho24 (keep_size (w := w) (g := g) (row := none) (kk HK))); have n1_ := aM (IsS43.below (iq43 HI0) hb); have n2_ := aM (blk_below (kq BK101) hb); have n3_ := aM (blk_below (kq BK118) hb); have n4_ := aM (KeepBut.trans (kk HK) (KeepBut.of_below hb g none) (.inl rfl)); have n5_ := aM (below_step (bqs HB (IsS43.ge HI0.out)) hb); clear HI0 BK101 BK118 HK HB; have HO130 := n0_; have HI0 := n1_; have BK101 := n2_; have BK118 := n3_; have HK := n4_; have HB := n5_; clear n0_ n1_ n2_ n3_ n4_ n5_; clear hb ho24; obtain ⟨Ao25, co25, eo25⟩ := Kd.R_slice HO130.out; subst eo25) | ((with_reducible refine gate_callee (f := 36) rfl ?_); refine gL (some 18) Try.func36 #[.pointer (some ⟨g, 0, none⟩), .slice Ao25 y128.length co25] ?_; (with_reducible refine (spec_l1PickInt.calls g s0_0 t120 t121 _ _ y128 t131 t132 t133 w0 _ ?side1 ?side2 ?side3 ?side4 ?side5 A22.out).mono ?_); (case side1 => exact iq43 HI0); (case side2 => exact bqs HB (IsS43.ge HI0.out)); (case side3 => exact cq (Kd.R_reads' HO130.out).2.2); (case side4 => exact (Kd.R_reads' HO130.out).2.1); (case side5 => exact far_slice (IsS43.own_ne HI0.out HO130.out (by decide))); rintro e w26 ⟨rfl, hi, hb, hk⟩; refine ⟨_, rfl, ?_⟩; have n0_ := aM (KeepBut.blk hk (g' := gb101) (o := .cells (tk14 0 0 0 0 false 0 0 0 0 0 0 0 0 0) 25 (0, 0)) (kq BK101) NB101_0.out (by simp)); have n1_ := aM (KeepBut.blk hk (g' := gb118) (o := .cells (tk14 t102 t103 t104 t105 t106 t107 t108 t109 t110 t111 t112 t113 t114 t115) 25 (0, 0)) (kq BK118) NB118_0.out (by simp)); have n2_ := aM (Kd.R_mono (Kd.R_keep (IsS43.apart (show IsS43 w0 _ g s0_0 t120 t121 from iq43 HI0) (rq HO130) (by decide)) hk (fun _ h => h.2)) (fun _ h => h.1)); have n3_ := aM (KeepBut.trans (kk HK) hk (.inl rfl)); have n4_ := aM (hb); have n5_ := aM (hi); clear BK101 BK118 HO130 HK HB HI0; have BK101 := n0_; have BK118 := n1_; have HO130 := n2_; have HK := n3_; have HB := n4_; have HI0 := n5_; clear n0_ n1_ n2_ n3_ n4_ n5_; (try clear hb); (try clear hb2); (try clear hk); (try clear hi); have hnb27 := NB118_101.out; have hnc27 := NB101_118.out; have hnb28 := NB118_0.out; have hnc28 := NB0_118.out; obtain ⟨_,_,_,_,_,_,_,_,_,_,_,_,_,_⟩ := cz14 BK118.out; have hfz29_0 := blk_frozen BK118.out))
      go_meet
      case rel => exact ⟨_, (t132), (t133), (t102), (t103), (t131), (t105), (t109), (t110), (t111), (t115), H', ⟨by first | omega | exact Nat.le_refl _⟩, ⟨by (with_reducible repeat (first | apply bkD | apply bkd | apply bkA)); refine blk_far ?_ NB101_118.out _; (with_reducible repeat (first | apply bkD | apply bkd | apply bkA)); exact BK101.out⟩, ⟨by (with_reducible repeat (first | apply bkD | apply bkd | apply bkA)); refine blk_put (cs := tk14 t102 t103 t104 t105 t106 t107 t108 t109 t110 t111 t112 t113 t114 t115) ?_ 2 _ rfl; (with_reducible repeat (first | apply bkD | apply bkd | apply bkA)); exact BK118.out⟩, ⟨iq43 HI0⟩, ⟨kk HK⟩, ⟨bqs HB (IsS43.ge HI0.out)⟩⟩
    rw [if_neg c21] at H
    have c21b0 : (t119 == 1) = false := beq_eq_false_iff_ne.mpr c21
    have c21b1 : (t119 != 1) = true := bne_iff_ne.mpr c21
    by_cases c30 : t119 = 2
    · rw [if_pos c30] at H
      have c30b0 : (t119 == 2) = true := beq_iff_eq.mpr c30
      have c30b1 : (t119 != 2) = false := bne_eq_false_iff_eq.mpr c30
      clear c30
      replace H := Option.bind_eq_some_iff.mp H
      obtain ⟨⟨t134, t135, t136⟩, A310, H⟩ := H
      replace H : (spec_l3Draw.j0 k s0_0 t135 t136 t102 t103 t104 t134 t106 t107 t108 t109 t110 t111 t112 t113 t114 t115) = some (r1, r2, r3, r4, r5, r6, r7, r8, r9, r10, r11, r12, r13, r14, r15, r16) := H
      have A31 := Aside0.mk A310
      clear A310
      have H' := Aside0.mk H
      clear H
      go_wp2_with (first | ((with_reducible refine gate_callee (f := 37) rfl ?_); refine gL (some 23) Try.func37 #[.pointer (some ⟨g, 0, none⟩), .int .i64 4] ?_; (with_reducible refine (spec_l1Below.calls g s0_0 t120 t121 4 t134 t135 t136 w0 _ ?side1 ?side2 A31.out).mono ?_); (case side1 => exact iq43 HI0); (case side2 => exact bqs HB (IsS43.ge HI0.out)); rintro e w32 ⟨rfl, hi, hb, hk⟩; refine ⟨_, rfl, ?_⟩; have n0_ := aM (KeepBut.blk hk (g' := gb101) (o := .cells (tk14 0 0 0 0 false 0 0 0 0 0 0 0 0 0) 25 (0, 0)) (kq BK101) NB101_0.out (by simp)); have n1_ := aM (KeepBut.blk hk (g' := gb118) (o := .cells (tk14 t102 t103 t104 t105 t106 t107 t108 t109 t110 t111 t112 t113 t114 t115) 25 (0, 0)) (kq BK118) NB118_0.out (by simp)); have n2_ := aM (KeepBut.trans (kk HK) hk (.inl rfl)); have n3_ := aM (hb); have n4_ := aM (hi); clear BK101 BK118 HK HB HI0; have BK101 := n0_; have BK118 := n1_; have HK := n2_; have HB := n3_; have HI0 := n4_; clear n0_ n1_ n2_ n3_ n4_; (try clear hb); (try clear hb2); (try clear hk); (try clear hi); have hnb33 := NB118_101.out; have hnc33 := NB101_118.out; have hnb34 := NB118_0.out; have hnc34 := NB0_118.out; obtain ⟨_,_,_,_,_,_,_,_,_,_,_,_,_,_⟩ := cz14 BK118.out; have hfz35_0 := blk_frozen BK118.out))
      go_meet
      case rel => exact ⟨_, (t135), (t136), (t102), (t103), (t104), (t134), (t109), (t110), (t111), (t115), H', ⟨by first | omega | exact Nat.le_refl _⟩, ⟨by (with_reducible repeat (first | apply bkD | apply bkd | apply bkA)); refine blk_far ?_ NB101_118.out _; (with_reducible repeat (first | apply bkD | apply bkd | apply bkA)); exact BK101.out⟩, ⟨by (with_reducible repeat (first | apply bkD | apply bkd | apply bkA)); refine blk_put (cs := tk14 t102 t103 t104 t105 t106 t107 t108 t109 t110 t111 t112 t113 t114 t115) ?_ 3 _ rfl; (with_reducible repeat (first | apply bkD | apply bkd | apply bkA)); exact BK118.out⟩, ⟨iq43 HI0⟩, ⟨kk HK⟩, ⟨bqs HB (IsS43.ge HI0.out)⟩⟩
    rw [if_neg c30] at H
    have c30b0 : (t119 == 2) = false := beq_eq_false_iff_ne.mpr c30
    have c30b1 : (t119 != 2) = true := bne_iff_ne.mpr c30
    by_cases c36 : t119 = 3
    · rw [if_pos c36] at H
      have c36b0 : (t119 == 3) = true := beq_iff_eq.mpr c36
      have c36b1 : (t119 != 3) = false := bne_eq_false_iff_eq.mpr c36
      clear c36
      replace H := Option.bind_eq_some_iff.mp H
      obtain ⟨⟨t137, t138, t139⟩, A370, H⟩ := H
      replace H : (spec_l3Draw.j0 k s0_0 t138 t139 t102 t137 t104 t105 t106 t107 t108 t109 t110 t111 t112 t113 t114 t115) = some (r1, r2, r3, r4, r5, r6, r7, r8, r9, r10, r11, r12, r13, r14, r15, r16) := H
      have A37 := Aside0.mk A370
      clear A370
      have H' := Aside0.mk H
      clear H
      go_wp2_with (first | ((with_reducible refine gate_callee (f := 37) rfl ?_); refine gL (some 28) Try.func37 #[.pointer (some ⟨g, 0, none⟩), .int .i64 5] ?_; (with_reducible refine (spec_l1Below.calls g s0_0 t120 t121 5 t137 t138 t139 w0 _ ?side1 ?side2 A37.out).mono ?_); (case side1 => exact iq43 HI0); (case side2 => exact bqs HB (IsS43.ge HI0.out)); rintro e w38 ⟨rfl, hi, hb, hk⟩; refine ⟨_, rfl, ?_⟩; have n0_ := aM (KeepBut.blk hk (g' := gb101) (o := .cells (tk14 0 0 0 0 false 0 0 0 0 0 0 0 0 0) 25 (0, 0)) (kq BK101) NB101_0.out (by simp)); have n1_ := aM (KeepBut.blk hk (g' := gb118) (o := .cells (tk14 t102 t103 t104 t105 t106 t107 t108 t109 t110 t111 t112 t113 t114 t115) 25 (0, 0)) (kq BK118) NB118_0.out (by simp)); have n2_ := aM (KeepBut.trans (kk HK) hk (.inl rfl)); have n3_ := aM (hb); have n4_ := aM (hi); clear BK101 BK118 HK HB HI0; have BK101 := n0_; have BK118 := n1_; have HK := n2_; have HB := n3_; have HI0 := n4_; clear n0_ n1_ n2_ n3_ n4_; (try clear hb); (try clear hb2); (try clear hk); (try clear hi); have hnb39 := NB118_101.out; have hnc39 := NB101_118.out; have hnb40 := NB118_0.out; have hnc40 := NB0_118.out; obtain ⟨_,_,_,_,_,_,_,_,_,_,_,_,_,_⟩ := cz14 BK118.out; have hfz41_0 := blk_frozen BK118.out))
      go_meet
      case rel => exact ⟨_, (t138), (t139), (t102), (t137), (t104), (t105), (t109), (t110), (t111), (t115), H', ⟨by first | omega | exact Nat.le_refl _⟩, ⟨by (with_reducible repeat (first | apply bkD | apply bkd | apply bkA)); refine blk_far ?_ NB101_118.out _; (with_reducible repeat (first | apply bkD | apply bkd | apply bkA)); exact BK101.out⟩, ⟨by (with_reducible repeat (first | apply bkD | apply bkd | apply bkA)); refine blk_put (cs := tk14 t102 t103 t104 t105 t106 t107 t108 t109 t110 t111 t112 t113 t114 t115) ?_ 1 _ rfl; (with_reducible repeat (first | apply bkD | apply bkd | apply bkA)); exact BK118.out⟩, ⟨iq43 HI0⟩, ⟨kk HK⟩, ⟨bqs HB (IsS43.ge HI0.out)⟩⟩
    rw [if_neg c36] at H
    have c36b0 : (t119 == 3) = false := beq_eq_false_iff_ne.mpr c36
    have c36b1 : (t119 != 3) = true := bne_iff_ne.mpr c36
    by_cases c42 : t119 = 4
    · rw [if_pos c42] at H
      have c42b0 : (t119 == 4) = true := beq_iff_eq.mpr c42
      have c42b1 : (t119 != 4) = false := bne_eq_false_iff_eq.mpr c42
      clear c42
      replace H := Option.bind_eq_some_iff.mp H
      obtain ⟨⟨t140, t141, t142⟩, A430, H⟩ := H
      replace H : (spec_l3Draw.j0 k s0_0 t141 t142 t102 t103 t104 t105 t106 t107 t108 (wrap64 (t140 - 2)) t110 t111 t112 t113 t114 t115) = some (r1, r2, r3, r4, r5, r6, r7, r8, r9, r10, r11, r12, r13, r14, r15, r16) := H
      have A43 := Aside0.mk A430
      clear A430
      have H' := Aside0.mk H
      clear H
      go_wp2_with (first | ((with_reducible refine gate_callee (f := 37) rfl ?_); refine gL (some 33) Try.func37 #[.pointer (some ⟨g, 0, none⟩), .int .i64 14] ?_; (with_reducible refine (spec_l1Below.calls g s0_0 t120 t121 14 t140 t141 t142 w0 _ ?side1 ?side2 A43.out).mono ?_); (case side1 => exact iq43 HI0); (case side2 => exact bqs HB (IsS43.ge HI0.out)); rintro e w44 ⟨rfl, hi, hb, hk⟩; refine ⟨_, rfl, ?_⟩; have n0_ := aM (KeepBut.blk hk (g' := gb101) (o := .cells (tk14 0 0 0 0 false 0 0 0 0 0 0 0 0 0) 25 (0, 0)) (kq BK101) NB101_0.out (by simp)); have n1_ := aM (KeepBut.blk hk (g' := gb118) (o := .cells (tk14 t102 t103 t104 t105 t106 t107 t108 t109 t110 t111 t112 t113 t114 t115) 25 (0, 0)) (kq BK118) NB118_0.out (by simp)); have n2_ := aM (KeepBut.trans (kk HK) hk (.inl rfl)); have n3_ := aM (hb); have n4_ := aM (hi); clear BK101 BK118 HK HB HI0; have BK101 := n0_; have BK118 := n1_; have HK := n2_; have HB := n3_; have HI0 := n4_; clear n0_ n1_ n2_ n3_ n4_; (try clear hb); (try clear hb2); (try clear hk); (try clear hi); have hnb45 := NB118_101.out; have hnc45 := NB101_118.out; have hnb46 := NB118_0.out; have hnc46 := NB0_118.out; obtain ⟨_,_,_,_,_,_,_,_,_,_,_,_,_,_⟩ := cz14 BK118.out; have hfz47_0 := blk_frozen BK118.out))
      go_meet
      case rel => exact ⟨_, (t141), (t142), (t102), (t103), (t104), (t105), (wrap64 (t140 - 2)), (t110), (t111), (t115), H', ⟨by first | omega | exact Nat.le_refl _⟩, ⟨by (with_reducible repeat (first | apply bkD | apply bkd | apply bkA)); refine blk_far ?_ NB101_118.out _; (with_reducible repeat (first | apply bkD | apply bkd | apply bkA)); exact BK101.out⟩, ⟨by (with_reducible repeat (first | apply bkD | apply bkd | apply bkA)); refine blk_put (cs := tk14 t102 t103 t104 t105 t106 t107 t108 t109 t110 t111 t112 t113 t114 t115) ?_ 7 _ rfl; (with_reducible repeat (first | apply bkD | apply bkd | apply bkA)); exact BK118.out⟩, ⟨iq43 HI0⟩, ⟨kk HK⟩, ⟨bqs HB (IsS43.ge HI0.out)⟩⟩
    rw [if_neg c42] at H
    have c42b0 : (t119 == 4) = false := beq_eq_false_iff_ne.mpr c42
    have c42b1 : (t119 != 4) = true := bne_iff_ne.mpr c42
    by_cases c48 : t119 = 5
    · rw [if_pos c48] at H
      have c48b0 : (t119 == 5) = true := beq_iff_eq.mpr c48
      have c48b1 : (t119 != 5) = false := bne_eq_false_iff_eq.mpr c48
      clear c48
      obtain ⟨y143, hy143⟩ : ∃ y_ : List Int, y_ = (([(-1), 5, 100040, 100041] : List Int)) := ⟨_, rfl⟩
      replace H : ((spec_l1PickInt.f s0_0 t120 t121 y143).bind fun bt146 => (spec_l3Draw.j0 k s0_0 bt146.2.1 bt146.2.2 t102 t103 t104 t105 t106 t107 t108 t109 bt146.1 t111 t112 t113 t114 t115)) = some (r1, r2, r3, r4, r5, r6, r7, r8, r9, r10, r11, r12, r13, r14, r15, r16) := by first | (rw [hy143]; with_reducible exact H) | (have H2_ := (Option.bind_some _ _).symm.trans H; rw [hy143]; with_reducible exact H2_) | (have H2_ := (Option.bind_some _ _).symm.trans H; with_reducible exact H2_) | with_reducible exact H | (rw [hy143]; exact H) | exact H
      have Ny143 := Aside0.mk hy143
      clear hy143
      replace H := Option.bind_eq_some_iff.mp H
      obtain ⟨⟨t146, t147, t148⟩, A490, H⟩ := H
      replace H : (spec_l3Draw.j0 k s0_0 t147 t148 t102 t103 t104 t105 t106 t107 t108 t109 t146 t111 t112 t113 t114 t115) = some (r1, r2, r3, r4, r5, r6, r7, r8, r9, r10, r11, r12, r13, r14, r15, r16) := H
      have A49 := Aside0.mk A490
      clear A490
      have H' := Aside0.mk H
      clear H
      go_wp2_with (first | ((with_reducible refine gate_dst (N := 39) rfl ?_); refine Kd.R_lit (Kd.int .i64) _ 3 ?hg (N := 39) ?hd (xs := ([(-1), 5, 100040, 100041] : List Int)) (inner := [.int .i64 (-1), .int .i64 5, .int .i64 100040, .int .i64 100041]) (ok := fun _ => True) (okp := fun _ => True) ?hr ?hp (fun _ hk => hk) trivial (Below.refl _ _) (Nat.le_refl _) (by simp) ?_; (case hd => rfl); (case hg => rfl); (case hr => first | (go_simp; done) | (go_simp; rfl)); (case hp => exact (Reps.one (show Kd.M (Kd.int .i64) _ _ _ (-1) [.int .i64 (-1)] from rfl) (Reps.one (show Kd.M (Kd.int .i64) _ _ _ 5 [.int .i64 5] from rfl) (Reps.one (show Kd.M (Kd.int .i64) _ _ _ 100040 [.int .i64 100040] from rfl) (Reps.one (show Kd.M (Kd.int .i64) _ _ _ 100041 [.int .i64 100041] from rfl) (Reps.none _ _)))))); intro v144 w50 ho51 hb hg_ hnew_; clear hg_ hnew_; (first | rw [← Ny143.out] at ho51 | (simp only [Int.reduceToNat] at ho51; rw [← Ny143.out] at ho51)); have n0_ := aM (Kd.R_lower ho51 (keep_size (w := w) (g := g) (row := none) (kk HK))); have n1_ := aM (IsS43.below (iq43 HI0) hb); have n2_ := aM (blk_below (kq BK101) hb); have n3_ := aM (blk_below (kq BK118) hb); have n4_ := aM (KeepBut.trans (kk HK) (KeepBut.of_below hb g none) (.inl rfl)); have n5_ := aM (below_step (bqs HB (IsS43.ge HI0.out)) hb); clear HI0 BK101 BK118 HK HB; have HO145 := n0_; have HI0 := n1_; have BK101 := n2_; have BK118 := n3_; have HK := n4_; have HB := n5_; clear n0_ n1_ n2_ n3_ n4_ n5_; clear hb ho51; obtain ⟨Ao52, co52, eo52⟩ := Kd.R_slice HO145.out; subst eo52) | ((with_reducible refine gate_callee (f := 36) rfl ?_); refine gL (some 40) Try.func36 #[.pointer (some ⟨g, 0, none⟩), .slice Ao52 y143.length co52] ?_; (with_reducible refine (spec_l1PickInt.calls g s0_0 t120 t121 _ _ y143 t146 t147 t148 w0 _ ?side1 ?side2 ?side3 ?side4 ?side5 A49.out).mono ?_); (case side1 => exact iq43 HI0); (case side2 => exact bqs HB (IsS43.ge HI0.out)); (case side3 => exact cq (Kd.R_reads' HO145.out).2.2); (case side4 => exact (Kd.R_reads' HO145.out).2.1); (case side5 => exact far_slice (IsS43.own_ne HI0.out HO145.out (by decide))); rintro e w53 ⟨rfl, hi, hb, hk⟩; refine ⟨_, rfl, ?_⟩; have n0_ := aM (KeepBut.blk hk (g' := gb101) (o := .cells (tk14 0 0 0 0 false 0 0 0 0 0 0 0 0 0) 25 (0, 0)) (kq BK101) NB101_0.out (by simp)); have n1_ := aM (KeepBut.blk hk (g' := gb118) (o := .cells (tk14 t102 t103 t104 t105 t106 t107 t108 t109 t110 t111 t112 t113 t114 t115) 25 (0, 0)) (kq BK118) NB118_0.out (by simp)); have n2_ := aM (Kd.R_mono (Kd.R_keep (IsS43.apart (show IsS43 w0 _ g s0_0 t120 t121 from iq43 HI0) (rq HO145) (by decide)) hk (fun _ h => h.2)) (fun _ h => h.1)); have n3_ := aM (KeepBut.trans (kk HK) hk (.inl rfl)); have n4_ := aM (hb); have n5_ := aM (hi); clear BK101 BK118 HO145 HK HB HI0; have BK101 := n0_; have BK118 := n1_; have HO145 := n2_; have HK := n3_; have HB := n4_; have HI0 := n5_; clear n0_ n1_ n2_ n3_ n4_ n5_; (try clear hb); (try clear hb2); (try clear hk); (try clear hi); have hnb54 := NB118_101.out; have hnc54 := NB101_118.out; have hnb55 := NB118_0.out; have hnc55 := NB0_118.out; obtain ⟨_,_,_,_,_,_,_,_,_,_,_,_,_,_⟩ := cz14 BK118.out; have hfz56_0 := blk_frozen BK118.out))
      go_meet
      case rel => exact ⟨_, (t147), (t148), (t102), (t103), (t104), (t105), (t109), (t146), (t111), (t115), H', ⟨by first | omega | exact Nat.le_refl _⟩, ⟨by (with_reducible repeat (first | apply bkD | apply bkd | apply bkA)); refine blk_far ?_ NB101_118.out _; (with_reducible repeat (first | apply bkD | apply bkd | apply bkA)); exact BK101.out⟩, ⟨by (with_reducible repeat (first | apply bkD | apply bkd | apply bkA)); refine blk_put (cs := tk14 t102 t103 t104 t105 t106 t107 t108 t109 t110 t111 t112 t113 t114 t115) ?_ 8 _ rfl; (with_reducible repeat (first | apply bkD | apply bkd | apply bkA)); exact BK118.out⟩, ⟨iq43 HI0⟩, ⟨kk HK⟩, ⟨bqs HB (IsS43.ge HI0.out)⟩⟩
    rw [if_neg c48] at H
    have c48b0 : (t119 == 5) = false := beq_eq_false_iff_ne.mpr c48
    have c48b1 : (t119 != 5) = true := bne_iff_ne.mpr c48
    by_cases c57 : t119 = 6
    · rw [if_pos c57] at H
      have c57b0 : (t119 == 6) = true := beq_iff_eq.mpr c57
      have c57b1 : (t119 != 6) = false := bne_eq_false_iff_eq.mpr c57
      clear c57
      obtain ⟨y149, hy149⟩ : ∃ y_ : List Int, y_ = (([(-1), 5, 100000000, 100000001, 99999990] : List Int)) := ⟨_, rfl⟩
      replace H : ((spec_l1PickInt.f s0_0 t120 t121 y149).bind fun bt152 => (spec_l3Draw.j0 k s0_0 bt152.2.1 bt152.2.2 t102 t103 t104 t105 t106 t107 t108 t109 t110 t111 t112 t113 t114 bt152.1)) = some (r1, r2, r3, r4, r5, r6, r7, r8, r9, r10, r11, r12, r13, r14, r15, r16) := by first | (rw [hy149]; with_reducible exact H) | (have H2_ := (Option.bind_some _ _).symm.trans H; rw [hy149]; with_reducible exact H2_) | (have H2_ := (Option.bind_some _ _).symm.trans H; with_reducible exact H2_) | with_reducible exact H | (rw [hy149]; exact H) | exact H
      have Ny149 := Aside0.mk hy149
      clear hy149
      replace H := Option.bind_eq_some_iff.mp H
      obtain ⟨⟨t152, t153, t154⟩, A580, H⟩ := H
      replace H : (spec_l3Draw.j0 k s0_0 t153 t154 t102 t103 t104 t105 t106 t107 t108 t109 t110 t111 t112 t113 t114 t152) = some (r1, r2, r3, r4, r5, r6, r7, r8, r9, r10, r11, r12, r13, r14, r15, r16) := H
      have A58 := Aside0.mk A580
      clear A580
      have H' := Aside0.mk H
      clear H
      go_wp2_with (first | ((with_reducible refine gate_dst (N := 45) rfl ?_); refine Kd.R_lit (Kd.int .i64) _ 3 ?hg (N := 45) ?hd (xs := ([(-1), 5, 100000000, 100000001, 99999990] : List Int)) (inner := [.int .i64 (-1), .int .i64 5, .int .i64 100000000, .int .i64 100000001, .int .i64 99999990]) (ok := fun _ => True) (okp := fun _ => True) ?hr ?hp (fun _ hk => hk) trivial (Below.refl _ _) (Nat.le_refl _) (by simp) ?_; (case hd => rfl); (case hg => rfl); (case hr => first | (go_simp; done) | (go_simp; rfl)); (case hp => exact (Reps.one (show Kd.M (Kd.int .i64) _ _ _ (-1) [.int .i64 (-1)] from rfl) (Reps.one (show Kd.M (Kd.int .i64) _ _ _ 5 [.int .i64 5] from rfl) (Reps.one (show Kd.M (Kd.int .i64) _ _ _ 100000000 [.int .i64 100000000] from rfl) (Reps.one (show Kd.M (Kd.int .i64) _ _ _ 100000001 [.int .i64 100000001] from rfl) (Reps.one (show Kd.M (Kd.int .i64) _ _ _ 99999990 [.int .i64 99999990] from rfl) (Reps.none _ _))))))); intro v150 w59 ho60 hb hg_ hnew_; clear hg_ hnew_; (first | rw [← Ny149.out] at ho60 | (simp only [Int.reduceToNat] at ho60; rw [← Ny149.out] at ho60)); have n0_ := aM (Kd.R_lower ho60 (keep_size (w := w) (g := g) (row := none) (kk HK))); have n1_ := aM (IsS43.below (iq43 HI0) hb); have n2_ := aM (blk_below (kq BK101) hb); have n3_ := aM (blk_below (kq BK118) hb); have n4_ := aM (KeepBut.trans (kk HK) (KeepBut.of_below hb g none) (.inl rfl)); have n5_ := aM (below_step (bqs HB (IsS43.ge HI0.out)) hb); clear HI0 BK101 BK118 HK HB; have HO151 := n0_; have HI0 := n1_; have BK101 := n2_; have BK118 := n3_; have HK := n4_; have HB := n5_; clear n0_ n1_ n2_ n3_ n4_ n5_; clear hb ho60; obtain ⟨Ao61, co61, eo61⟩ := Kd.R_slice HO151.out; subst eo61) | ((with_reducible refine gate_callee (f := 36) rfl ?_); refine gL (some 46) Try.func36 #[.pointer (some ⟨g, 0, none⟩), .slice Ao61 y149.length co61] ?_; (with_reducible refine (spec_l1PickInt.calls g s0_0 t120 t121 _ _ y149 t152 t153 t154 w0 _ ?side1 ?side2 ?side3 ?side4 ?side5 A58.out).mono ?_); (case side1 => exact iq43 HI0); (case side2 => exact bqs HB (IsS43.ge HI0.out)); (case side3 => exact cq (Kd.R_reads' HO151.out).2.2); (case side4 => exact (Kd.R_reads' HO151.out).2.1); (case side5 => exact far_slice (IsS43.own_ne HI0.out HO151.out (by decide))); rintro e w62 ⟨rfl, hi, hb, hk⟩; refine ⟨_, rfl, ?_⟩; have n0_ := aM (KeepBut.blk hk (g' := gb101) (o := .cells (tk14 0 0 0 0 false 0 0 0 0 0 0 0 0 0) 25 (0, 0)) (kq BK101) NB101_0.out (by simp)); have n1_ := aM (KeepBut.blk hk (g' := gb118) (o := .cells (tk14 t102 t103 t104 t105 t106 t107 t108 t109 t110 t111 t112 t113 t114 t115) 25 (0, 0)) (kq BK118) NB118_0.out (by simp)); have n2_ := aM (Kd.R_mono (Kd.R_keep (IsS43.apart (show IsS43 w0 _ g s0_0 t120 t121 from iq43 HI0) (rq HO151) (by decide)) hk (fun _ h => h.2)) (fun _ h => h.1)); have n3_ := aM (KeepBut.trans (kk HK) hk (.inl rfl)); have n4_ := aM (hb); have n5_ := aM (hi); clear BK101 BK118 HO151 HK HB HI0; have BK101 := n0_; have BK118 := n1_; have HO151 := n2_; have HK := n3_; have HB := n4_; have HI0 := n5_; clear n0_ n1_ n2_ n3_ n4_ n5_; (try clear hb); (try clear hb2); (try clear hk); (try clear hi); have hnb63 := NB118_101.out; have hnc63 := NB101_118.out; have hnb64 := NB118_0.out; have hnc64 := NB0_118.out; obtain ⟨_,_,_,_,_,_,_,_,_,_,_,_,_,_⟩ := cz14 BK118.out; have hfz65_0 := blk_frozen BK118.out))
      go_meet
      case rel => exact ⟨_, (t153), (t154), (t102), (t103), (t104), (t105), (t109), (t110), (t111), (t152), H', ⟨by first | omega | exact Nat.le_refl _⟩, ⟨by (with_reducible repeat (first | apply bkD | apply bkd | apply bkA)); refine blk_far ?_ NB101_118.out _; (with_reducible repeat (first | apply bkD | apply bkd | apply bkA)); exact BK101.out⟩, ⟨by (with_reducible repeat (first | apply bkD | apply bkd | apply bkA)); refine blk_put (cs := tk14 t102 t103 t104 t105 t106 t107 t108 t109 t110 t111 t112 t113 t114 t115) ?_ 13 _ rfl; (with_reducible repeat (first | apply bkD | apply bkd | apply bkA)); exact BK118.out⟩, ⟨iq43 HI0⟩, ⟨kk HK⟩, ⟨bqs HB (IsS43.ge HI0.out)⟩⟩
    rw [if_neg c57] at H
    have c57b0 : (t119 == 6) = false := beq_eq_false_iff_ne.mpr c57
    have c57b1 : (t119 != 6) = true := bne_iff_ne.mpr c57
    by_cases c66 : t119 = 7
    · rw [if_pos c66] at H
      have c66b0 : (t119 == 7) = true := beq_iff_eq.mpr c66
      have c66b1 : (t119 != 7) = false := bne_eq_false_iff_eq.mpr c66
      clear c66
      replace H := Option.bind_eq_some_iff.mp H
      obtain ⟨⟨t155, t156, t157⟩, A670, H⟩ := H
      replace H : (spec_l3Draw.j0 k s0_0 t156 t157 t102 t103 t104 t105 t106 t107 t108 t109 t110 t155 t112 t113 t114 t115) = some (r1, r2, r3, r4, r5, r6, r7, r8, r9, r10, r11, r12, r13, r14, r15, r16) := H
      have A67 := Aside0.mk A670
      clear A670
      have H' := Aside0.mk H
      clear H
      go_wp2_with (first | ((with_reducible refine gate_callee (f := 37) rfl ?_); refine gL (some 51) Try.func37 #[.pointer (some ⟨g, 0, none⟩), .int .i64 22] ?_; (with_reducible refine (spec_l1Below.calls g s0_0 t120 t121 22 t155 t156 t157 w0 _ ?side1 ?side2 A67.out).mono ?_); (case side1 => exact iq43 HI0); (case side2 => exact bqs HB (IsS43.ge HI0.out)); rintro e w68 ⟨rfl, hi, hb, hk⟩; refine ⟨_, rfl, ?_⟩; have n0_ := aM (KeepBut.blk hk (g' := gb101) (o := .cells (tk14 0 0 0 0 false 0 0 0 0 0 0 0 0 0) 25 (0, 0)) (kq BK101) NB101_0.out (by simp)); have n1_ := aM (KeepBut.blk hk (g' := gb118) (o := .cells (tk14 t102 t103 t104 t105 t106 t107 t108 t109 t110 t111 t112 t113 t114 t115) 25 (0, 0)) (kq BK118) NB118_0.out (by simp)); have n2_ := aM (KeepBut.trans (kk HK) hk (.inl rfl)); have n3_ := aM (hb); have n4_ := aM (hi); clear BK101 BK118 HK HB HI0; have BK101 := n0_; have BK118 := n1_; have HK := n2_; have HB := n3_; have HI0 := n4_; clear n0_ n1_ n2_ n3_ n4_; (try clear hb); (try clear hb2); (try clear hk); (try clear hi); have hnb69 := NB118_101.out; have hnc69 := NB101_118.out; have hnb70 := NB118_0.out; have hnc70 := NB0_118.out; obtain ⟨_,_,_,_,_,_,_,_,_,_,_,_,_,_⟩ := cz14 BK118.out; have hfz71_0 := blk_frozen BK118.out))
      go_meet
      case rel => exact ⟨_, (t156), (t157), (t102), (t103), (t104), (t105), (t109), (t110), (t155), (t115), H', ⟨by first | omega | exact Nat.le_refl _⟩, ⟨by (with_reducible repeat (first | apply bkD | apply bkd | apply bkA)); refine blk_far ?_ NB101_118.out _; (with_reducible repeat (first | apply bkD | apply bkd | apply bkA)); exact BK101.out⟩, ⟨by (with_reducible repeat (first | apply bkD | apply bkd | apply bkA)); refine blk_put (cs := tk14 t102 t103 t104 t105 t106 t107 t108 t109 t110 t111 t112 t113 t114 t115) ?_ 9 _ rfl; (with_reducible repeat (first | apply bkD | apply bkd | apply bkA)); exact BK118.out⟩, ⟨iq43 HI0⟩, ⟨kk HK⟩, ⟨bqs HB (IsS43.ge HI0.out)⟩⟩
    rw [if_neg c66] at H
    have c66b0 : (t119 == 7) = false := beq_eq_false_iff_ne.mpr c66
    have c66b1 : (t119 != 7) = true := bne_iff_ne.mpr c66
    have H' := Aside0.mk H
    clear H
    go_wp2
    go_meet
    case rel => exact ⟨_, (t120), (t121), (t102), (t103), (t104), (t105), (t109), (t110), (t111), (t115), H', ⟨by first | omega | exact Nat.le_refl _⟩, ⟨kq BK101⟩, ⟨kq BK118⟩, ⟨iq43 HI0⟩, ⟨kk HK⟩, ⟨bqs HB (IsS43.ge HI0.out)⟩⟩
  case rest =>
    clear HC4
    try clear c1
    try clear c2
    try clear p2
    try clear c3
    try clear c4
    try clear c5
    try clear c6
    try clear p6
    try clear c7
    try clear c8
    try clear c9
    try clear c12
    try clear c12b0
    try clear c12b1
    try clear c18
    try clear c19
    try clear c21
    try clear c21b0
    try clear c21b1
    try clear c27
    try clear c28
    try clear c30
    try clear c30b0
    try clear c30b1
    try clear c33
    try clear c34
    try clear c36
    try clear c36b0
    try clear c36b1
    try clear c37
    try clear c39
    try clear c40
    try clear c42
    try clear c42b0
    try clear c42b1
    try clear c45
    try clear c46
    try clear c48
    try clear c48b0
    try clear c48b1
    try clear c54
    try clear c55
    try clear c57
    try clear c57b0
    try clear c57b1
    try clear c63
    try clear c64
    try clear p64
    try clear c66
    try clear c66b0
    try clear c66b1
    try clear c69
    try clear c70
    try clear hfz10_0
    try clear hfz20_0
    try clear hfz29_0
    try clear hfz35_0
    try clear hfz41_0
    try clear hfz47_0
    try clear hfz56_0
    try clear hfz65_0
    try clear hfz71_0
    obtain ⟨kq, x1001_3, x1002_3, x119000_3, x119001_3, x119002_3, x119003_3, x119007_3, x119008_3, x119009_3, x119013_3, HA, HJ3, BK101, BK118, HI0, HK, HB⟩ := hcut
    cases kq with
    | zero => exact absurd HA.out (by simp [spec_l3Draw.j0])
    | succ kj3 =>
      have H := HA.out
      clear HA
      simp only [spec_l3Draw.j0] at H
      simp only [Option.some.injEq, Prod.mk.injEq] at H
      obtain ⟨rfl, rfl, rfl, rfl, rfl, rfl, rfl, rfl, rfl, rfl, rfl, rfl, rfl, rfl, rfl, rfl⟩ := H
      have hnb72 := NB118_101.out
      have hnc72 := NB101_118.out
      have hnb73 := NB118_0.out
      have hnc73 := NB0_118.out
      obtain ⟨_,_,_,_,_,_,_,_,_,_,_,_,_,_⟩ := cz14 BK118.out
      have hfz74_0 := blk_frozen BK118.out
      have hnb75 := NB101_0.out
      have hnc75 := NB0_101.out
      obtain ⟨_,_,_,_,_,_,_,_,_,_,_,_,_,_⟩ := cz14 BK101.out
      have hfz76_0 := blk_frozen BK101.out
      go_wp2
      refine bodyPost_ret (results_cell_row rfl _ _ gb101 25 #[.int .i64 x119000_3, .int .i64 x119001_3, .int .i64 x119002_3, .int .i64 x119003_3, .bool t106, .int .i64 t107, .int .i64 t108, .int .i64 x119007_3, .int .i64 x119008_3, .int .i64 x119009_3, .int .i64 t112, .int .i64 t113, .int .i64 t114, .int .i64 x119013_3] (0, 0) _ rfl (by refine put14 (cs := tk14 0 0 0 0 false 0 0 0 0 0 0 0 0 0) ?_; (with_reducible repeat (first | apply bkD | apply bkd | apply bkA)); exact BK101.out) Try.underlying25 rfl (by kernel_rfl)) rfl ?_
      exact ⟨sR, iq43 HI0, bqs HB (IsS43.ge HI0.out), kk HK⟩

end Go.Proofs.Ytlneecichgimpaa.Print
