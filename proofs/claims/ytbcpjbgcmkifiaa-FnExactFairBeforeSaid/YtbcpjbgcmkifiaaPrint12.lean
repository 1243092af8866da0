/- Go functions as plain Lean functions, and that the Go code answers just as these, wherever they answer. Conditions: those of each theorem. Written by a program of this session (wip/patch.py). -/
import Derived.Test.YtbcpjbgcmkifiaaPrint0
import Derived.Test.YtbcpjbgcmkifiaaPrint2
import Derived.Test.YtbcpjbgcmkifiaaPrint10
import Derived.Test.YtbcpjbgcmkifiaaPrint11
namespace Go.Proofs.Ytbcpjbgcmkifiaa.Print
open Go.RowKit Go.Proofs.Ytbcpjbgcmkifiaa.Base Go.Proofs.YtbcpjbgcmkifiaaW.PrintWords Go.Proofs.YtbcpjbgcmkifiaaW.PrintLast Go.Proofs.YtbcpjbgcmkifiaaW.PrintMore
attribute [local go_sem] max2_int min2_int max_two min_two max_three min_three max_four min_four   -- for this text's walks alone
set_option linter.unusedVariables false
set_option linter.unusedSimpArgs false

/-! ### spec_TaskOk0: function 34 -/
def spec_TaskOk0.j0 : Nat → Bool → Int → Int → Int → Int → Bool → Int → Int → Int → Int → Int → Int → Int → Int → Int → Option (Bool)
  | 0, _, _, _, _, _, _, _, _, _, _, _, _, _, _, _ => none
  | k + 1, x29, x259000, x259001, x259002, x259003, x259004, x259005, x259006, x259007, x259008, x259009, x259010, x259011, x259012, x259013 => if x29 = true then (some false) else (if x259001 = 1 then ((spec_ShareOk.f x259005 x259006).bind fun t264 => (if t264 = true then ((spec_l1In.f x259007 0 x259005).bind fun t265 => (if t265 = true then ((spec_l1In.f x259008 0 100040).bind fun t266 => (some t266)) else (some false))) else (some false))) else (if x259001 = 2 then ((spec_l1In.f x259009 1 20).bind fun t267 => (if t267 = true then ((spec_l1In.f x259010 0 10).bind fun t268 => (if t268 = true then ((spec_l1Min.f x259010 1).bind fun t269 => ((spec_l1In.f x259007 t269 x259010).bind fun t270 => (if t270 = true then ((spec_l1In.f x259011 0 1000000).bind fun t271 => (some t271)) else (some false)))) else (some false))) else (some false))) else ((spec_NiceOk.f x259012).bind fun t272 => (if t272 = true then ((spec_l1In.f x259013 0 100000000).bind fun t273 => (some t273)) else (some false)))))
def spec_TaskOk0.f (k : Nat) (a0_0 : Int) (a0_1 : Int) (a0_2 : Int) (a0_3 : Int) (a0_4 : Bool) (a0_5 : Int) (a0_6 : Int) (a0_7 : Int) (a0_8 : Int) (a0_9 : Int) (a0_10 : Int) (a0_11 : Int) (a0_12 : Int) (a0_13 : Int) : Option (Bool) := (spec_l1In.f a0_0 1 1000).bind fun t259 => (if t259 = true then ((spec_l1In.f a0_1 1 3).bind fun t260 => (if t260 = true then ((spec_l1In.f a0_2 0 3).bind fun t261 => (if t261 = true then ((spec_l1In.f a0_3 1 2).bind fun t262 => (if t262 = true then ((spec_l3Clean.f k a0_0 a0_1 a0_2 a0_3 a0_4 a0_5 a0_6 a0_7 a0_8 a0_9 a0_10 a0_11 a0_12 a0_13).bind fun t263 => (spec_TaskOk0.j0 k (!t263) a0_0 a0_1 a0_2 a0_3 a0_4 a0_5 a0_6 a0_7 a0_8 a0_9 a0_10 a0_11 a0_12 a0_13)) else (spec_TaskOk0.j0 k true a0_0 a0_1 a0_2 a0_3 a0_4 a0_5 a0_6 a0_7 a0_8 a0_9 a0_10 a0_11 a0_12 a0_13))) else (spec_TaskOk0.j0 k true a0_0 a0_1 a0_2 a0_3 a0_4 a0_5 a0_6 a0_7 a0_8 a0_9 a0_10 a0_11 a0_12 a0_13))) else (spec_TaskOk0.j0 k true a0_0 a0_1 a0_2 a0_3 a0_4 a0_5 a0_6 a0_7 a0_8 a0_9 a0_10 a0_11 a0_12 a0_13))) else (spec_TaskOk0.j0 k true a0_0 a0_1 a0_2 a0_3 a0_4 a0_5 a0_6 a0_7 a0_8 a0_9 a0_10 a0_11 a0_12 a0_13))
theorem spec_TaskOk0.mono_l : ∀ k, (∀ y0 y1 y2 y3 y4 y5 y6 y7 y8 y9 y10 y11 y12 y13 y14, LeO (spec_TaskOk0.j0 k y0 y1 y2 y3 y4 y5 y6 y7 y8 y9 y10 y11 y12 y13 y14) (spec_TaskOk0.j0 (k + 1) y0 y1 y2 y3 y4 y5 y6 y7 y8 y9 y10 y11 y12 y13 y14))
  | 0 => fun _ _ _ _ _ _ _ _ _ _ _ _ _ _ _ r h => by simp [spec_TaskOk0.j0] at h
  | k + 1 => by
    have ih0 := spec_TaskOk0.mono_l k
    · intro y0 y1 y2 y3 y4 y5 y6 y7 y8 y9 y10 y11 y12 y13 y14
      unfold spec_TaskOk0.j0
      repeat' first
      | (with_reducible exact ih0 _ _ _ _ _ _ _ _ _ _ _ _ _ _ _)
      | (with_reducible exact spec_l3Clean.mono _ _ _ _ _ _ _ _ _ _ _ _ _ _ _)
      | (with_reducible exact LeO.refl _)
      | (with_reducible exact LeO.none _)
      | (with_reducible refine LeO.ite ?_ ?_)
      | (with_reducible refine LeO.bind ?_ (fun _ => ?_))
      | exact ih0 _ _ _ _ _ _ _ _ _ _ _ _ _ _ _
      | exact spec_l3Clean.mono _ _ _ _ _ _ _ _ _ _ _ _ _ _ _
      | exact LeO.none _
      | refine LeO.ite ?_ ?_
      | refine LeO.bind ?_ (fun _ => ?_)
theorem spec_TaskOk0.mono : ∀ a0 a1 a2 a3 a4 a5 a6 a7 a8 a9 a10 a11 a12 a13 k, LeO (spec_TaskOk0.f k a0 a1 a2 a3 a4 a5 a6 a7 a8 a9 a10 a11 a12 a13) (spec_TaskOk0.f (k + 1) a0 a1 a2 a3 a4 a5 a6 a7 a8 a9 a10 a11 a12 a13) := by
  intro a0 a1 a2 a3 a4 a5 a6 a7 a8 a9 a10 a11 a12 a13 k
  have ih0 := spec_TaskOk0.mono_l k
  unfold spec_TaskOk0.f
  repeat' first
      | (with_reducible exact ih0 _ _ _ _ _ _ _ _ _ _ _ _ _ _ _)
      | (with_reducible exact spec_l3Clean.mono _ _ _ _ _ _ _ _ _ _ _ _ _ _ _)
      | (with_reducible exact LeO.refl _)
      | (with_reducible exact LeO.none _)
      | (with_reducible refine LeO.ite ?_ ?_)
      | (with_reducible refine LeO.bind ?_ (fun _ => ?_))
      | exact ih0 _ _ _ _ _ _ _ _ _ _ _ _ _ _ _
      | exact spec_l3Clean.mono _ _ _ _ _ _ _ _ _ _ _ _ _ _ _
      | exact LeO.none _
      | refine LeO.ite ?_ ?_
      | refine LeO.bind ?_ (fun _ => ?_)
set_option maxHeartbeats 8000000 in
set_option maxRecDepth 100000 in
theorem spec_TaskOk0.calls (k : Nat) (a0_0 : Int) (a0_1 : Int) (a0_2 : Int) (a0_3 : Int) (a0_4 : Bool) (a0_5 : Int) (a0_6 : Int) (a0_7 : Int) (a0_8 : Int) (a0_9 : Int) (a0_10 : Int) (a0_11 : Int) (a0_12 : Int) (a0_13 : Int) (r : Bool) (w : World) (h : spec_TaskOk0.f k a0_0 a0_1 a0_2 a0_3 a0_4 a0_5 a0_6 a0_7 a0_8 a0_9 a0_10 a0_11 a0_12 a0_13 = some r) :
    Calls Try.prog 34 #[.agg #[.int .i64 a0_0, .int .i64 a0_1, .int .i64 a0_2, .int .i64 a0_3, .bool a0_4, .int .i64 a0_5, .int .i64 a0_6, .int .i64 a0_7, .int .i64 a0_8, .int .i64 a0_9, .int .i64 a0_10, .int .i64 a0_11, .int .i64 a0_12, .int .i64 a0_13]] w fun e w' => e = .returned (.bool r) ∧ Below w.heap.size w w' := by
  have hu48 := Try.underlying48
  have hu27 := Try.underlying27
  have HB := Aside0.mk (Below.refl w.heap.size w)
  have H : ((spec_l1In.f a0_0 1 1000).bind fun t259 => (if t259 = true then ((spec_l1In.f a0_1 1 3).bind fun t260 => (if t260 = true then ((spec_l1In.f a0_2 0 3).bind fun t261 => (if t261 = true then ((spec_l1In.f a0_3 1 2).bind fun t262 => (if t262 = true then ((spec_l3Clean.f k a0_0 a0_1 a0_2 a0_3 a0_4 a0_5 a0_6 a0_7 a0_8 a0_9 a0_10 a0_11 a0_12 a0_13).bind fun t263 => (spec_TaskOk0.j0 k (!t263) a0_0 a0_1 a0_2 a0_3 a0_4 a0_5 a0_6 a0_7 a0_8 a0_9 a0_10 a0_11 a0_12 a0_13)) else (spec_TaskOk0.j0 k true a0_0 a0_1 a0_2 a0_3 a0_4 a0_5 a0_6 a0_7 a0_8 a0_9 a0_10 a0_11 a0_12 a0_13))) else (spec_TaskOk0.j0 k true a0_0 a0_1 a0_2 a0_3 a0_4 a0_5 a0_6 a0_7 a0_8 a0_9 a0_10 a0_11 a0_12 a0_13))) else (spec_TaskOk0.j0 k true a0_0 a0_1 a0_2 a0_3 a0_4 a0_5 a0_6 a0_7 a0_8 a0_9 a0_10 a0_11 a0_12 a0_13))) else (spec_TaskOk0.j0 k true a0_0 a0_1 a0_2 a0_3 a0_4 a0_5 a0_6 a0_7 a0_8 a0_9 a0_10 a0_11 a0_12 a0_13))) = some r := h
  clear h
  have HC2 := Aside0.mk H
  clear H
  go_enter Try.func34, Try.ntmps34
  go_upto_region 1 with (first | ((with_reducible refine gate_dst (N := 1) rfl ?_); refine box_event ?hg (N := 1) ?hd (cs := #[.int .i64 a0_0, .int .i64 a0_1, .int .i64 a0_2, .int .i64 a0_3, .bool a0_4, .int .i64 a0_5, .int .i64 a0_6, .int .i64 a0_7, .int .i64 a0_8, .int .i64 a0_9, .int .i64 a0_10, .int .i64 a0_11, .int .i64 a0_12, .int .i64 a0_13]) (t := 48) ?hr ?_; (case hd => rfl); (case hg => rfl); (case hr => first | (go_simp; done) | (go_simp; rfl)); intro gb258 hg w3 hbox hb; have n0_ := Aside0.mk (below_step (by repeat (first | (with_reducible first | exact HB.out | apply below_alloc | apply pw_below_drewN | apply below_drew1) | exact HB.out)) hb); have n1_ := Aside0.mk (hbox); have n2_ := Aside0.mk ((by rw [hg]; exact (below_size (by repeat (first | (with_reducible first | exact HB.out | apply below_alloc | apply pw_below_drewN | apply below_drew1) | exact HB.out))) : w.heap.size ≤ gb258)); have n3_ := Aside0.mk ((by rw [hg]; exact (below_size (by repeat (first | (with_reducible first | exact HB.out | apply below_alloc | apply pw_below_drewN | apply below_drew1) | exact HB.out))) : w.heap.size ≤ gb258)); clear HB; have HB := n0_; have BK258 := n1_; have GW258 := n2_; have GE258 := n3_; clear n0_ n1_ n2_ n3_; clear hb hbox hg))
  repeat (go_quiet (first | ((with_reducible refine gate_dst (N := 1) rfl ?_); refine box_event ?hg (N := 1) ?hd (cs := #[.int .i64 a0_0, .int .i64 a0_1, .int .i64 a0_2, .int .i64 a0_3, .bool a0_4, .int .i64 a0_5, .int .i64 a0_6, .int .i64 a0_7, .int .i64 a0_8, .int .i64 a0_9, .int .i64 a0_10, .int .i64 a0_11, .int .i64 a0_12, .int .i64 a0_13]) (t := 48) ?hr ?_; (case hd => rfl); (case hg => rfl); (case hr => first | (go_simp; done) | (go_simp; rfl)); intro gb258 hg w3 hbox hb; have n0_ := Aside0.mk (below_step (by repeat (first | (with_reducible first | exact HB.out | apply below_alloc | apply pw_below_drewN | apply below_drew1) | exact HB.out)) hb); have n1_ := Aside0.mk (hbox); have n2_ := Aside0.mk ((by rw [hg]; exact (below_size (by repeat (first | (with_reducible first | exact HB.out | apply below_alloc | apply pw_below_drewN | apply below_drew1) | exact HB.out))) : w.heap.size ≤ gb258)); have n3_ := Aside0.mk ((by rw [hg]; exact (below_size (by repeat (first | (with_reducible first | exact HB.out | apply below_alloc | apply pw_below_drewN | apply below_drew1) | exact HB.out))) : w.heap.size ≤ gb258)); clear HB; have HB := n0_; have BK258 := n1_; have GW258 := n2_; have GE258 := n3_; clear n0_ n1_ n2_ n3_; clear hb hbox hg)); go_upto_region 1 with (first | ((with_reducible refine gate_dst (N := 1) rfl ?_); refine box_event ?hg (N := 1) ?hd (cs := #[.int .i64 a0_0, .int .i64 a0_1, .int .i64 a0_2, .int .i64 a0_3, .bool a0_4, .int .i64 a0_5, .int .i64 a0_6, .int .i64 a0_7, .int .i64 a0_8, .int .i64 a0_9, .int .i64 a0_10, .int .i64 a0_11, .int .i64 a0_12, .int .i64 a0_13]) (t := 48) ?hr ?_; (case hd => rfl); (case hg => rfl); (case hr => first | (go_simp; done) | (go_simp; rfl)); intro gb258 hg w3 hbox hb; have n0_ := Aside0.mk (below_step (by repeat (first | (with_reducible first | exact HB.out | apply below_alloc | apply pw_below_drewN | apply below_drew1) | exact HB.out)) hb); have n1_ := Aside0.mk (hbox); have n2_ := Aside0.mk ((by rw [hg]; exact (below_size (by repeat (first | (with_reducible first | exact HB.out | apply below_alloc | apply pw_below_drewN | apply below_drew1) | exact HB.out))) : w.heap.size ≤ gb258)); have n3_ := Aside0.mk ((by rw [hg]; exact (below_size (by repeat (first | (with_reducible first | exact HB.out | apply below_alloc | apply pw_below_drewN | apply below_drew1) | exact HB.out))) : w.heap.size ≤ gb258)); clear HB; have HB := n0_; have BK258 := n1_; have GW258 := n2_; have GE258 := n3_; clear n0_ n1_ n2_ n3_; clear hb hbox hg)))
  (try simp only [Act.put, List.setIfInBounds_toArray, List.set_cons_zero, List.set_cons_succ])
  go_cut [29] (fun v29 wc => ∃ (kq : Nat) (x29_1 : Bool), v29 = .bool x29_1 ∧ Aside0 (spec_TaskOk0.j0 kq x29_1 a0_0 a0_1 a0_2 a0_3 a0_4 a0_5 a0_6 a0_7 a0_8 a0_9 a0_10 a0_11 a0_12 a0_13 = some r) ∧ Aside0 (kq ≤ k) ∧ Aside0 (wc.heap[gb258]? = some (.cells #[.int .i64 a0_0, .int .i64 a0_1, .int .i64 a0_2, .int .i64 a0_3, .bool a0_4, .int .i64 a0_5, .int .i64 a0_6, .int .i64 a0_7, .int .i64 a0_8, .int .i64 a0_9, .int .i64 a0_10, .int .i64 a0_11, .int .i64 a0_12, .int .i64 a0_13] 48 (0, 0))) ∧ Aside0 (Below w.heap.size w wc))
  case first =>
    have H := HC2.out
    clear HC2
    replace H := Option.bind_eq_some_iff.mp H
    obtain ⟨t259, A40, H⟩ := H
    replace H : (if t259 = true then ((spec_l1In.f a0_1 1 3).bind fun t260 => (if t260 = true then ((spec_l1In.f a0_2 0 3).bind fun t261 => (if t261 = true then ((spec_l1In.f a0_3 1 2).bind fun t262 => (if t262 = true then ((spec_l3Clean.f k a0_0 a0_1 a0_2 a0_3 a0_4 a0_5 a0_6 a0_7 a0_8 a0_9 a0_10 a0_11 a0_12 a0_13).bind fun t263 => (spec_TaskOk0.j0 k (!t263) a0_0 a0_1 a0_2 a0_3 a0_4 a0_5 a0_6 a0_7 a0_8 a0_9 a0_10 a0_11 a0_12 a0_13)) else (spec_TaskOk0.j0 k true a0_0 a0_1 a0_2 a0_3 a0_4 a0_5 a0_6 a0_7 a0_8 a0_9 a0_10 a0_11 a0_12 a0_13))) else (spec_TaskOk0.j0 k true a0_0 a0_1 a0_2 a0_3 a0_4 a0_5 a0_6 a0_7 a0_8 a0_9 a0_10 a0_11 a0_12 a0_13))) else (spec_TaskOk0.j0 k true a0_0 a0_1 a0_2 a0_3 a0_4 a0_5 a0_6 a0_7 a0_8 a0_9 a0_10 a0_11 a0_12 a0_13))) else (spec_TaskOk0.j0 k true a0_0 a0_1 a0_2 a0_3 a0_4 a0_5 a0_6 a0_7 a0_8 a0_9 a0_10 a0_11 a0_12 a0_13)) = some r := H
    have A4 := Aside0.mk A40
    clear A40
    by_cases c5 : t259 = true
    · subst c5
      have H1 : ((spec_l1In.f a0_1 1 3).bind fun t260 => (if t260 = true then ((spec_l1In.f a0_2 0 3).bind fun t261 => (if t261 = true then ((spec_l1In.f a0_3 1 2).bind fun t262 => (if t262 = true then ((spec_l3Clean.f k a0_0 a0_1 a0_2 a0_3 a0_4 a0_5 a0_6 a0_7 a0_8 a0_9 a0_10 a0_11 a0_12 a0_13).bind fun t263 => (spec_TaskOk0.j0 k (!t263) a0_0 a0_1 a0_2 a0_3 a0_4 a0_5 a0_6 a0_7 a0_8 a0_9 a0_10 a0_11 a0_12 a0_13)) else (spec_TaskOk0.j0 k true a0_0 a0_1 a0_2 a0_3 a0_4 a0_5 a0_6 a0_7 a0_8 a0_9 a0_10 a0_11 a0_12 a0_13))) else (spec_TaskOk0.j0 k true a0_0 a0_1 a0_2 a0_3 a0_4 a0_5 a0_6 a0_7 a0_8 a0_9 a0_10 a0_11 a0_12 a0_13))) else (spec_TaskOk0.j0 k true a0_0 a0_1 a0_2 a0_3 a0_4 a0_5 a0_6 a0_7 a0_8 a0_9 a0_10 a0_11 a0_12 a0_13))) = some r := by rw [if_pos rfl] at H; exact H
      clear H
      have H := H1
      clear H1
      replace H := Option.bind_eq_some_iff.mp H
      obtain ⟨t260, A60, H⟩ := H
      replace H : (if t260 = true then ((spec_l1In.f a0_2 0 3).bind fun t261 => (if t261 = true then ((spec_l1In.f a0_3 1 2).bind fun t262 => (if t262 = true then ((spec_l3Clean.f k a0_0 a0_1 a0_2 a0_3 a0_4 a0_5 a0_6 a0_7 a0_8 a0_9 a0_10 a0_11 a0_12 a0_13).bind fun t263 => (spec_TaskOk0.j0 k (!t263) a0_0 a0_1 a0_2 a0_3 a0_4 a0_5 a0_6 a0_7 a0_8 a0_9 a0_10 a0_11 a0_12 a0_13)) else (spec_TaskOk0.j0 k true a0_0 a0_1 a0_2 a0_3 a0_4 a0_5 a0_6 a0_7 a0_8 a0_9 a0_10 a0_11 a0_12 a0_13))) else (spec_TaskOk0.j0 k true a0_0 a0_1 a0_2 a0_3 a0_4 a0_5 a0_6 a0_7 a0_8 a0_9 a0_10 a0_11 a0_12 a0_13))) else (spec_TaskOk0.j0 k true a0_0 a0_1 a0_2 a0_3 a0_4 a0_5 a0_6 a0_7 a0_8 a0_9 a0_10 a0_11 a0_12 a0_13)) = some r := H
      have A6 := Aside0.mk A60
      clear A60
      by_cases c7 : t260 = true
      · subst c7
        have H1 : ((spec_l1In.f a0_2 0 3).bind fun t261 => (if t261 = true then ((spec_l1In.f a0_3 1 2).bind fun t262 => (if t262 = true then ((spec_l3Clean.f k a0_0 a0_1 a0_2 a0_3 a0_4 a0_5 a0_6 a0_7 a0_8 a0_9 a0_10 a0_11 a0_12 a0_13).bind fun t263 => (spec_TaskOk0.j0 k (!t263) a0_0 a0_1 a0_2 a0_3 a0_4 a0_5 a0_6 a0_7 a0_8 a0_9 a0_10 a0_11 a0_12 a0_13)) else (spec_TaskOk0.j0 k true a0_0 a0_1 a0_2 a0_3 a0_4 a0_5 a0_6 a0_7 a0_8 a0_9 a0_10 a0_11 a0_12 a0_13))) else (spec_TaskOk0.j0 k true a0_0 a0_1 a0_2 a0_3 a0_4 a0_5 a0_6 a0_7 a0_8 a0_9 a0_10 a0_11 a0_12 a0_13))) = some r := by rw [if_pos rfl] at H; exact H
        clear H
        have H := H1
        clear H1
        replace H := Option.bind_eq_some_iff.mp H
        obtain ⟨t261, A80, H⟩ := H
        replace H : (if t261 = true then ((spec_l1In.f a0_3 1 2).bind fun t262 => (if t262 = true then ((spec_l3Clean.f k a0_0 a0_1 a0_2 a0_3 a0_4 a0_5 a0_6 a0_7 a0_8 a0_9 a0_10 a0_11 a0_12 a0_13).bind fun t263 => (spec_TaskOk0.j0 k (!t263) a0_0 a0_1 a0_2 a0_3 a0_4 a0_5 a0_6 a0_7 a0_8 a0_9 a0_10 a0_11 a0_12 a0_13)) else (spec_TaskOk0.j0 k true a0_0 a0_1 a0_2 a0_3 a0_4 a0_5 a0_6 a0_7 a0_8 a0_9 a0_10 a0_11 a0_12 a0_13))) else (spec_TaskOk0.j0 k true a0_0 a0_1 a0_2 a0_3 a0_4 a0_5 a0_6 a0_7 a0_8 a0_9 a0_10 a0_11 a0_12 a0_13)) = some r := H
        have A8 := Aside0.mk A80
        clear A80
        by_cases c9 : t261 = true
        · subst c9
          have H1 : ((spec_l1In.f a0_3 1 2).bind fun t262 => (if t262 = true then ((spec_l3Clean.f k a0_0 a0_1 a0_2 a0_3 a0_4 a0_5 a0_6 a0_7 a0_8 a0_9 a0_10 a0_11 a0_12 a0_13).bind fun t263 => (spec_TaskOk0.j0 k (!t263) a0_0 a0_1 a0_2 a0_3 a0_4 a0_5 a0_6 a0_7 a0_8 a0_9 a0_10 a0_11 a0_12 a0_13)) else (spec_TaskOk0.j0 k true a0_0 a0_1 a0_2 a0_3 a0_4 a0_5 a0_6 a0_7 a0_8 a0_9 a0_10 a0_11 a0_12 a0_13))) = some r := by rw [if_pos rfl] at H; exact H
          clear H
          have H := H1
          clear H1
          replace H := Option.bind_eq_some_iff.mp H
          obtain ⟨t262, A100, H⟩ := H
          replace H : (if t262 = true then ((spec_l3Clean.f k a0_0 a0_1 a0_2 a0_3 a0_4 a0_5 a0_6 a0_7 a0_8 a0_9 a0_10 a0_11 a0_12 a0_13).bind fun t263 => (spec_TaskOk0.j0 k (!t263) a0_0 a0_1 a0_2 a0_3 a0_4 a0_5 a0_6 a0_7 a0_8 a0_9 a0_10 a0_11 a0_12 a0_13)) else (spec_TaskOk0.j0 k true a0_0 a0_1 a0_2 a0_3 a0_4 a0_5 a0_6 a0_7 a0_8 a0_9 a0_10 a0_11 a0_12 a0_13)) = some r := H
          have A10 := Aside0.mk A100
          clear A100
          by_cases c11 : t262 = true
          · subst c11
            have H1 : ((spec_l3Clean.f k a0_0 a0_1 a0_2 a0_3 a0_4 a0_5 a0_6 a0_7 a0_8 a0_9 a0_10 a0_11 a0_12 a0_13).bind fun t263 => (spec_TaskOk0.j0 k (!t263) a0_0 a0_1 a0_2 a0_3 a0_4 a0_5 a0_6 a0_7 a0_8 a0_9 a0_10 a0_11 a0_12 a0_13)) = some r := by rw [if_pos rfl] at H; exact H
            clear H
            have H := H1
            clear H1
            replace H := Option.bind_eq_some_iff.mp H
            obtain ⟨t263, A120, H⟩ := H
            replace H : (spec_TaskOk0.j0 k (!t263) a0_0 a0_1 a0_2 a0_3 a0_4 a0_5 a0_6 a0_7 a0_8 a0_9 a0_10 a0_11 a0_12 a0_13) = some r := H
            have A12 := Aside0.mk A120
            clear A120
            have H' := Aside0.mk H
            clear H
            have hcz13_0 : w3.cell? ⟨gb258, 0, none⟩ = some (.int .i64 a0_0) := (blk_cell BK258.out 0).trans rfl
            have hcz13_1 : w3.cell? ⟨gb258, 1, none⟩ = some (.int .i64 a0_1) := (blk_cell BK258.out 1).trans rfl
            have hcz13_2 : w3.cell? ⟨gb258, 2, none⟩ = some (.int .i64 a0_2) := (blk_cell BK258.out 2).trans rfl
            have hcz13_3 : w3.cell? ⟨gb258, 3, none⟩ = some (.int .i64 a0_3) := (blk_cell BK258.out 3).trans rfl
            have hcz13_4 : w3.cell? ⟨gb258, 4, none⟩ = some (.bool a0_4) := (blk_cell BK258.out 4).trans rfl
            have hcz13_5 : w3.cell? ⟨gb258, 5, none⟩ = some (.int .i64 a0_5) := (blk_cell BK258.out 5).trans rfl
            have hcz13_6 : w3.cell? ⟨gb258, 6, none⟩ = some (.int .i64 a0_6) := (blk_cell BK258.out 6).trans rfl
            have hcz13_7 : w3.cell? ⟨gb258, 7, none⟩ = some (.int .i64 a0_7) := (blk_cell BK258.out 7).trans rfl
            have hcz13_8 : w3.cell? ⟨gb258, 8, none⟩ = some (.int .i64 a0_8) := (blk_cell BK258.out 8).trans rfl
            have hcz13_9 : w3.cell? ⟨gb258, 9, none⟩ = some (.int .i64 a0_9) := (blk_cell BK258.out 9).trans rfl
            have hcz13_10 : w3.cell? ⟨gb258, 10, none⟩ = some (.int .i64 a0_10) := (blk_cell BK258.out 10).trans rfl
            have hcz13_11 : w3.cell? ⟨gb258, 11, none⟩ = some (.int .i64 a0_11) := (blk_cell BK258.out 11).trans rfl
            have hcz13_12 : w3.cell? ⟨gb258, 12, none⟩ = some (.int .i64 a0_12) := (blk_cell BK258.out 12).trans rfl
            have hcz13_13 : w3.cell? ⟨gb258, 13, none⟩ = some (.int .i64 a0_13) := (blk_cell BK258.out 13).trans rfl
            have hfz13_0 := blk_frozen BK258.out 0
            have hfz13_1 := blk_frozen BK258.out 1
            have hfz13_2 := blk_frozen BK258.out 2
            have hfz13_3 := blk_frozen BK258.out 3
            have hfz13_4 := blk_frozen BK258.out 4
            have hfz13_5 := blk_frozen BK258.out 5
            have hfz13_6 := blk_frozen BK258.out 6
            have hfz13_7 := blk_frozen BK258.out 7
            have hfz13_8 := blk_frozen BK258.out 8
            have hfz13_9 := blk_frozen BK258.out 9
            have hfz13_10 := blk_frozen BK258.out 10
            have hfz13_11 := blk_frozen BK258.out 11
            have hfz13_12 := blk_frozen BK258.out 12
            have hfz13_13 := blk_frozen BK258.out 13
            go_wp2_with (first | (go_at_call 41; (with_reducible refine (spec_l1In.calls a0_0 1 1000 true _ A4.out).mono ?_); rintro e w' ⟨rfl, ⟨nd, rfl⟩⟩; (try first | exact ⟨rfl, _, World.drewN_drewN _ _ _⟩ | exact ⟨rfl, _, Eq.trans (World.drewN_drewN _ _ _) (congrArg (World.drewN _) (Nat.add_assoc _ _ _))⟩)) | (go_at_call 41; (with_reducible refine (spec_l1In.calls a0_1 1 3 true _ A6.out).mono ?_); rintro e w' ⟨rfl, ⟨nd, rfl⟩⟩; (try first | exact ⟨rfl, _, World.drewN_drewN _ _ _⟩ | exact ⟨rfl, _, Eq.trans (World.drewN_drewN _ _ _) (congrArg (World.drewN _) (Nat.add_assoc _ _ _))⟩)) | (go_at_call 41; (with_reducible refine (spec_l1In.calls a0_2 0 3 true _ A8.out).mono ?_); rintro e w' ⟨rfl, ⟨nd, rfl⟩⟩; (try first | exact ⟨rfl, _, World.drewN_drewN _ _ _⟩ | exact ⟨rfl, _, Eq.trans (World.drewN_drewN _ _ _) (congrArg (World.drewN _) (Nat.add_assoc _ _ _))⟩)) | (go_at_call 41; (with_reducible refine (spec_l1In.calls a0_3 1 2 true _ A10.out).mono ?_); rintro e w' ⟨rfl, ⟨nd, rfl⟩⟩; (try first | exact ⟨rfl, _, World.drewN_drewN _ _ _⟩ | exact ⟨rfl, _, Eq.trans (World.drewN_drewN _ _ _) (congrArg (World.drewN _) (Nat.add_assoc _ _ _))⟩)) | (go_at_call 49; (with_reducible refine (spec_l3Clean.calls k a0_0 a0_1 a0_2 a0_3 a0_4 a0_5 a0_6 a0_7 a0_8 a0_9 a0_10 a0_11 a0_12 a0_13 t263 _ A12.out).mono ?_); rintro e w14 ⟨rfl, hb⟩; have n0_ := Aside0.mk (blk_below (g := gb258) (o := .cells #[.int .i64 a0_0, .int .i64 a0_1, .int .i64 a0_2, .int .i64 a0_3, .bool a0_4, .int .i64 a0_5, .int .i64 a0_6, .int .i64 a0_7, .int .i64 a0_8, .int .i64 a0_9, .int .i64 a0_10, .int .i64 a0_11, .int .i64 a0_12, .int .i64 a0_13] 48 (0, 0)) (by (with_reducible repeat (first | refine blk_drewN ?_ _ | refine blk_drew ?_ | refine blk_alloc ?_ _)); exact BK258.out) hb); have n1_ := Aside0.mk (below_step (by repeat (first | (with_reducible first | exact HB.out | apply below_alloc | apply pw_below_drewN | apply below_drew1 | refine below_set ?_ GE258.out) | exact HB.out)) hb); clear BK258; clear HB; have BK258 := n0_; have HB := n1_; clear n0_ n1_; (try clear hb); (try clear hb2); (try clear hk); (try clear hi)))
            repeat (go_quiet (first | (go_at_call 41; (with_reducible refine (spec_l1In.calls a0_0 1 1000 true _ A4.out).mono ?_); rintro e w' ⟨rfl, ⟨nd, rfl⟩⟩; (try first | exact ⟨rfl, _, World.drewN_drewN _ _ _⟩ | exact ⟨rfl, _, Eq.trans (World.drewN_drewN _ _ _) (congrArg (World.drewN _) (Nat.add_assoc _ _ _))⟩)) | (go_at_call 41; (with_reducible refine (spec_l1In.calls a0_1 1 3 true _ A6.out).mono ?_); rintro e w' ⟨rfl, ⟨nd, rfl⟩⟩; (try first | exact ⟨rfl, _, World.drewN_drewN _ _ _⟩ | exact ⟨rfl, _, Eq.trans (World.drewN_drewN _ _ _) (congrArg (World.drewN _) (Nat.add_assoc _ _ _))⟩)) | (go_at_call 41; (with_reducible refine (spec_l1In.calls a0_2 0 3 true _ A8.out).mono ?_); rintro e w' ⟨rfl, ⟨nd, rfl⟩⟩; (try first | exact ⟨rfl, _, World.drewN_drewN _ _ _⟩ | exact ⟨rfl, _, Eq.trans (World.drewN_drewN _ _ _) (congrArg (World.drewN _) (Nat.add_assoc _ _ _))⟩)) | (go_at_call 41; (with_reducible refine (spec_l1In.calls a0_3 1 2 true _ A10.out).mono ?_); rintro e w' ⟨rfl, ⟨nd, rfl⟩⟩; (try first | exact ⟨rfl, _, World.drewN_drewN _ _ _⟩ | exact ⟨rfl, _, Eq.trans (World.drewN_drewN _ _ _) (congrArg (World.drewN _) (Nat.add_assoc _ _ _))⟩)) | (go_at_call 49; (with_reducible refine (spec_l3Clean.calls k a0_0 a0_1 a0_2 a0_3 a0_4 a0_5 a0_6 a0_7 a0_8 a0_9 a0_10 a0_11 a0_12 a0_13 t263 _ A12.out).mono ?_); rintro e w14 ⟨rfl, hb⟩; have n0_ := Aside0.mk (blk_below (g := gb258) (o := .cells #[.int .i64 a0_0, .int .i64 a0_1, .int .i64 a0_2, .int .i64 a0_3, .bool a0_4, .int .i64 a0_5, .int .i64 a0_6, .int .i64 a0_7, .int .i64 a0_8, .int .i64 a0_9, .int .i64 a0_10, .int .i64 a0_11, .int .i64 a0_12, .int .i64 a0_13] 48 (0, 0)) (by (with_reducible repeat (first | refine blk_drewN ?_ _ | refine blk_drew ?_ | refine blk_alloc ?_ _)); exact BK258.out) hb); have n1_ := Aside0.mk (below_step (by repeat (first | (with_reducible first | exact HB.out | apply below_alloc | apply pw_below_drewN | apply below_drew1 | refine below_set ?_ GE258.out) | exact HB.out)) hb); clear BK258; clear HB; have BK258 := n0_; have HB := n1_; clear n0_ n1_; (try clear hb); (try clear hb2); (try clear hk); (try clear hi))); try go_wp2_with (first | (go_at_call 41; (with_reducible refine (spec_l1In.calls a0_0 1 1000 true _ A4.out).mono ?_); rintro e w' ⟨rfl, ⟨nd, rfl⟩⟩; (try first | exact ⟨rfl, _, World.drewN_drewN _ _ _⟩ | exact ⟨rfl, _, Eq.trans (World.drewN_drewN _ _ _) (congrArg (World.drewN _) (Nat.add_assoc _ _ _))⟩)) | (go_at_call 41; (with_reducible refine (spec_l1In.calls a0_1 1 3 true _ A6.out).mono ?_); rintro e w' ⟨rfl, ⟨nd, rfl⟩⟩; (try first | exact ⟨rfl, _, World.drewN_drewN _ _ _⟩ | exact ⟨rfl, _, Eq.trans (World.drewN_drewN _ _ _) (congrArg (World.drewN _) (Nat.add_assoc _ _ _))⟩)) | (go_at_call 41; (with_reducible refine (spec_l1In.calls a0_2 0 3 true _ A8.out).mono ?_); rintro e w' ⟨rfl, ⟨nd, rfl⟩⟩; (try first | exact ⟨rfl, _, World.drewN_drewN _ _ _⟩ | exact ⟨rfl, _, Eq.trans (World.drewN_drewN _ _ _) (congrArg (World.drewN _) (Nat.add_assoc _ _ _))⟩)) | (go_at_call 41; (with_reducible refine (spec_l1In.calls a0_3 1 2 true _ A10.out).mono ?_); rintro e w' ⟨rfl, ⟨nd, rfl⟩⟩; (try first | exact ⟨rfl, _, World.drewN_drewN _ _ _⟩ | exact ⟨rfl, _, Eq.trans (World.drewN_drewN _ _ _) (congrArg (World.drewN _) (Nat.add_assoc _ _ _))⟩)) | (go_at_call 49; (with_reducible refine (spec_l3Clean.calls k a0_0 a0_1 a0_2 a0_3 a0_4 a0_5 a0_6 a0_7 a0_8 a0_9 a0_10 a0_11 a0_12 a0_13 t263 _ A12.out).mono ?_); rintro e w14 ⟨rfl, hb⟩; have n0_ := Aside0.mk (blk_below (g := gb258) (o := .cells #[.int .i64 a0_0, .int .i64 a0_1, .int .i64 a0_2, .int .i64 a0_3, .bool a0_4, .int .i64 a0_5, .int .i64 a0_6, .int .i64 a0_7, .int .i64 a0_8, .int .i64 a0_9, .int .i64 a0_10, .int .i64 a0_11, .int .i64 a0_12, .int .i64 a0_13] 48 (0, 0)) (by (with_reducible repeat (first | refine blk_drewN ?_ _ | refine blk_drew ?_ | refine blk_alloc ?_ _)); exact BK258.out) hb); have n1_ := Aside0.mk (below_step (by repeat (first | (with_reducible first | exact HB.out | apply below_alloc | apply pw_below_drewN | apply below_drew1 | refine below_set ?_ GE258.out) | exact HB.out)) hb); clear BK258; clear HB; have BK258 := n0_; have HB := n1_; clear n0_ n1_; (try clear hb); (try clear hb2); (try clear hk); (try clear hi))))
            go_meet
            case rel => exact ⟨_, (!t263), (by first | rfl | (simp; done) | (simp [*]; done)), H', ⟨by first | omega | exact Nat.le_refl _⟩, ⟨by (with_reducible repeat (first | refine blk_drewN ?_ _ | refine blk_drew ?_ | refine blk_alloc ?_ _)); exact BK258.out⟩, ⟨by repeat (first | (with_reducible first | exact HB.out | apply below_alloc | apply pw_below_drewN | apply below_drew1 | refine below_set ?_ GE258.out) | exact HB.out)⟩⟩
          · replace c11 := Bool.eq_false_iff.mpr c11
            subst c11
            have H1 : (spec_TaskOk0.j0 k true a0_0 a0_1 a0_2 a0_3 a0_4 a0_5 a0_6 a0_7 a0_8 a0_9 a0_10 a0_11 a0_12 a0_13) = some r := by rw [if_neg (show ¬ (false = true) by decide)] at H; exact H
            clear H
            have H := H1
            clear H1
            have H' := Aside0.mk H
            clear H
            have hcz15_0 : w3.cell? ⟨gb258, 0, none⟩ = some (.int .i64 a0_0) := (blk_cell BK258.out 0).trans rfl
            have hcz15_1 : w3.cell? ⟨gb258, 1, none⟩ = some (.int .i64 a0_1) := (blk_cell BK258.out 1).trans rfl
            have hcz15_2 : w3.cell? ⟨gb258, 2, none⟩ = some (.int .i64 a0_2) := (blk_cell BK258.out 2).trans rfl
            have hcz15_3 : w3.cell? ⟨gb258, 3, none⟩ = some (.int .i64 a0_3) := (blk_cell BK258.out 3).trans rfl
            have hcz15_4 : w3.cell? ⟨gb258, 4, none⟩ = some (.bool a0_4) := (blk_cell BK258.out 4).trans rfl
            have hcz15_5 : w3.cell? ⟨gb258, 5, none⟩ = some (.int .i64 a0_5) := (blk_cell BK258.out 5).trans rfl
            have hcz15_6 : w3.cell? ⟨gb258, 6, none⟩ = some (.int .i64 a0_6) := (blk_cell BK258.out 6).trans rfl
            have hcz15_7 : w3.cell? ⟨gb258, 7, none⟩ = some (.int .i64 a0_7) := (blk_cell BK258.out 7).trans rfl
            have hcz15_8 : w3.cell? ⟨gb258, 8, none⟩ = some (.int .i64 a0_8) := (blk_cell BK258.out 8).trans rfl
            have hcz15_9 : w3.cell? ⟨gb258, 9, none⟩ = some (.int .i64 a0_9) := (blk_cell BK258.out 9).trans rfl
            have hcz15_10 : w3.cell? ⟨gb258, 10, none⟩ = some (.int .i64 a0_10) := (blk_cell BK258.out 10).trans rfl
            have hcz15_11 : w3.cell? ⟨gb258, 11, none⟩ = some (.int .i64 a0_11) := (blk_cell BK258.out 11).trans rfl
            have hcz15_12 : w3.cell? ⟨gb258, 12, none⟩ = some (.int .i64 a0_12) := (blk_cell BK258.out 12).trans rfl
            have hcz15_13 : w3.cell? ⟨gb258, 13, none⟩ = some (.int .i64 a0_13) := (blk_cell BK258.out 13).trans rfl
            have hfz15_0 := blk_frozen BK258.out 0
            have hfz15_1 := blk_frozen BK258.out 1
            have hfz15_2 := blk_frozen BK258.out 2
            have hfz15_3 := blk_frozen BK258.out 3
            have hfz15_4 := blk_frozen BK258.out 4
            have hfz15_5 := blk_frozen BK258.out 5
            have hfz15_6 := blk_frozen BK258.out 6
            have hfz15_7 := blk_frozen BK258.out 7
            have hfz15_8 := blk_frozen BK258.out 8
            have hfz15_9 := blk_frozen BK258.out 9
            have hfz15_10 := blk_frozen BK258.out 10
            have hfz15_11 := blk_frozen BK258.out 11
            have hfz15_12 := blk_frozen BK258.out 12
            have hfz15_13 := blk_frozen BK258.out 13
            go_wp2_with (first | (go_at_call 41; (with_reducible refine (spec_l1In.calls a0_0 1 1000 true _ A4.out).mono ?_); rintro e w' ⟨rfl, ⟨nd, rfl⟩⟩; (try first | exact ⟨rfl, _, World.drewN_drewN _ _ _⟩ | exact ⟨rfl, _, Eq.trans (World.drewN_drewN _ _ _) (congrArg (World.drewN _) (Nat.add_assoc _ _ _))⟩)) | (go_at_call 41; (with_reducible refine (spec_l1In.calls a0_1 1 3 true _ A6.out).mono ?_); rintro e w' ⟨rfl, ⟨nd, rfl⟩⟩; (try first | exact ⟨rfl, _, World.drewN_drewN _ _ _⟩ | exact ⟨rfl, _, Eq.trans (World.drewN_drewN _ _ _) (congrArg (World.drewN _) (Nat.add_assoc _ _ _))⟩)) | (go_at_call 41; (with_reducible refine (spec_l1In.calls a0_2 0 3 true _ A8.out).mono ?_); rintro e w' ⟨rfl, ⟨nd, rfl⟩⟩; (try first | exact ⟨rfl, _, World.drewN_drewN _ _ _⟩ | exact ⟨rfl, _, Eq.trans (World.drewN_drewN _ _ _) (congrArg (World.drewN _) (Nat.add_assoc _ _ _))⟩)) | (go_at_call 41; (with_reducible refine (spec_l1In.calls a0_3 1 2 false _ A10.out).mono ?_); rintro e w' ⟨rfl, ⟨nd, rfl⟩⟩; (try first | exact ⟨rfl, _, World.drewN_drewN _ _ _⟩ | exact ⟨rfl, _, Eq.trans (World.drewN_drewN _ _ _) (congrArg (World.drewN _) (Nat.add_assoc _ _ _))⟩)))
            repeat (go_quiet (first | (go_at_call 41; (with_reducible refine (spec_l1In.calls a0_0 1 1000 true _ A4.out).mono ?_); rintro e w' ⟨rfl, ⟨nd, rfl⟩⟩; (try first | exact ⟨rfl, _, World.drewN_drewN _ _ _⟩ | exact ⟨rfl, _, Eq.trans (World.drewN_drewN _ _ _) (congrArg (World.drewN _) (Nat.add_assoc _ _ _))⟩)) | (go_at_call 41; (with_reducible refine (spec_l1In.calls a0_1 1 3 true _ A6.out).mono ?_); rintro e w' ⟨rfl, ⟨nd, rfl⟩⟩; (try first | exact ⟨rfl, _, World.drewN_drewN _ _ _⟩ | exact ⟨rfl, _, Eq.trans (World.drewN_drewN _ _ _) (congrArg (World.drewN _) (Nat.add_assoc _ _ _))⟩)) | (go_at_call 41; (with_reducible refine (spec_l1In.calls a0_2 0 3 true _ A8.out).mono ?_); rintro e w' ⟨rfl, ⟨nd, rfl⟩⟩; (try first | exact ⟨rfl, _, World.drewN_drewN _ _ _⟩ | exact ⟨rfl, _, Eq.trans (World.drewN_drewN _ _ _) (congrArg (World.drewN _) (Nat.add_assoc _ _ _))⟩)) | (go_at_call 41; (with_reducible refine (spec_l1In.calls a0_3 1 2 false _ A10.out).mono ?_); rintro e w' ⟨rfl, ⟨nd, rfl⟩⟩; (try first | exact ⟨rfl, _, World.drewN_drewN _ _ _⟩ | exact ⟨rfl, _, Eq.trans (World.drewN_drewN _ _ _) (congrArg (World.drewN _) (Nat.add_assoc _ _ _))⟩))); try go_wp2_with (first | (go_at_call 41; (with_reducible refine (spec_l1In.calls a0_0 1 1000 true _ A4.out).mono ?_); rintro e w' ⟨rfl, ⟨nd, rfl⟩⟩; (try first | exact ⟨rfl, _, World.drewN_drewN _ _ _⟩ | exact ⟨rfl, _, Eq.trans (World.drewN_drewN _ _ _) (congrArg (World.drewN _) (Nat.add_assoc _ _ _))⟩)) | (go_at_call 41; (with_reducible refine (spec_l1In.calls a0_1 1 3 true _ A6.out).mono ?_); rintro e w' ⟨rfl, ⟨nd, rfl⟩⟩; (try first | exact ⟨rfl, _, World.drewN_drewN _ _ _⟩ | exact ⟨rfl, _, Eq.trans (World.drewN_drewN _ _ _) (congrArg (World.drewN _) (Nat.add_assoc _ _ _))⟩)) | (go_at_call 41; (with_reducible refine (spec_l1In.calls a0_2 0 3 true _ A8.out).mono ?_); rintro e w' ⟨rfl, ⟨nd, rfl⟩⟩; (try first | exact ⟨rfl, _, World.drewN_drewN _ _ _⟩ | exact ⟨rfl, _, Eq.trans (World.drewN_drewN _ _ _) (congrArg (World.drewN _) (Nat.add_assoc _ _ _))⟩)) | (go_at_call 41; (with_reducible refine (spec_l1In.calls a0_3 1 2 false _ A10.out).mono ?_); rintro e w' ⟨rfl, ⟨nd, rfl⟩⟩; (try first | exact ⟨rfl, _, World.drewN_drewN _ _ _⟩ | exact ⟨rfl, _, Eq.trans (World.drewN_drewN _ _ _) (congrArg (World.drewN _) (Nat.add_assoc _ _ _))⟩))))
            go_meet
            case rel => exact ⟨_, (true), (by first | rfl | (simp; done) | (simp [*]; done)), H', ⟨by first | omega | exact Nat.le_refl _⟩, ⟨by (with_reducible repeat (first | refine blk_drewN ?_ _ | refine blk_drew ?_ | refine blk_alloc ?_ _)); exact BK258.out⟩, ⟨by repeat (first | (with_reducible first | exact HB.out | apply below_alloc | apply pw_below_drewN | apply below_drew1 | refine below_set ?_ GE258.out) | exact HB.out)⟩⟩
        · replace c9 := Bool.eq_false_iff.mpr c9
          subst c9
          have H1 : (spec_TaskOk0.j0 k true a0_0 a0_1 a0_2 a0_3 a0_4 a0_5 a0_6 a0_7 a0_8 a0_9 a0_10 a0_11 a0_12 a0_13) = some r := by rw [if_neg (show ¬ (false = true) by decide)] at H; exact H
          clear H
          have H := H1
          clear H1
          have H' := Aside0.mk H
          clear H
          have hcz16_0 : w3.cell? ⟨gb258, 0, none⟩ = some (.int .i64 a0_0) := (blk_cell BK258.out 0).trans rfl
          have hcz16_1 : w3.cell? ⟨gb258, 1, none⟩ = some (.int .i64 a0_1) := (blk_cell BK258.out 1).trans rfl
          have hcz16_2 : w3.cell? ⟨gb258, 2, none⟩ = some (.int .i64 a0_2) := (blk_cell BK258.out 2).trans rfl
          have hcz16_3 : w3.cell? ⟨gb258, 3, none⟩ = some (.int .i64 a0_3) := (blk_cell BK258.out 3).trans rfl
          have hcz16_4 : w3.cell? ⟨gb258, 4, none⟩ = some (.bool a0_4) := (blk_cell BK258.out 4).trans rfl
          have hcz16_5 : w3.cell? ⟨gb258, 5, none⟩ = some (.int .i64 a0_5) := (blk_cell BK258.out 5).trans rfl
          have hcz16_6 : w3.cell? ⟨gb258, 6, none⟩ = some (.int .i64 a0_6) := (blk_cell BK258.out 6).trans rfl
          have hcz16_7 : w3.cell? ⟨gb258, 7, none⟩ = some (.int .i64 a0_7) := (blk_cell BK258.out 7).trans rfl
          have hcz16_8 : w3.cell? ⟨gb258, 8, none⟩ = some (.int .i64 a0_8) := (blk_cell BK258.out 8).trans rfl
          have hcz16_9 : w3.cell? ⟨gb258, 9, none⟩ = some (.int .i64 a0_9) := (blk_cell BK258.out 9).trans rfl
          have hcz16_10 : w3.cell? ⟨gb258, 10, none⟩ = some (.int .i64 a0_10) := (blk_cell BK258.out 10).trans rfl
          have hcz16_11 : w3.cell? ⟨gb258, 11, none⟩ = some (.int .i64 a0_11) := (blk_cell BK258.out 11).trans rfl
          have hcz16_12 : w3.cell? ⟨gb258, 12, none⟩ = some (.int .i64 a0_12) := (blk_cell BK258.out 12).trans rfl
          have hcz16_13 : w3.cell? ⟨gb258, 13, none⟩ = some (.int .i64 a0_13) := (blk_cell BK258.out 13).trans rfl
          have hfz16_0 := blk_frozen BK258.out 0
          have hfz16_1 := blk_frozen BK258.out 1
          have hfz16_2 := blk_frozen BK258.out 2
          have hfz16_3 := blk_frozen BK258.out 3
          have hfz16_4 := blk_frozen BK258.out 4
          have hfz16_5 := blk_frozen BK258.out 5
          have hfz16_6 := blk_frozen BK258.out 6
          have hfz16_7 := blk_frozen BK258.out 7
          have hfz16_8 := blk_frozen BK258.out 8
          have hfz16_9 := blk_frozen BK258.out 9
          have hfz16_10 := blk_frozen BK258.out 10
          have hfz16_11 := blk_frozen BK258.out 11
          have hfz16_12 := blk_frozen BK258.out 12
          have hfz16_13 := blk_frozen BK258.out 13
          go_wp2_with (first | (go_at_call 41; (with_reducible refine (spec_l1In.calls a0_0 1 1000 true _ A4.out).mono ?_); rintro e w' ⟨rfl, ⟨nd, rfl⟩⟩; (try first | exact ⟨rfl, _, World.drewN_drewN _ _ _⟩ | exact ⟨rfl, _, Eq.trans (World.drewN_drewN _ _ _) (congrArg (World.drewN _) (Nat.add_assoc _ _ _))⟩)) | (go_at_call 41; (with_reducible refine (spec_l1In.calls a0_1 1 3 true _ A6.out).mono ?_); rintro e w' ⟨rfl, ⟨nd, rfl⟩⟩; (try first | exact ⟨rfl, _, World.drewN_drewN _ _ _⟩ | exact ⟨rfl, _, Eq.trans (World.drewN_drewN _ _ _) (congrArg (World.drewN _) (Nat.add_assoc _ _ _))⟩)) | (go_at_call 41; (with_reducible refine (spec_l1In.calls a0_2 0 3 false _ A8.out).mono ?_); rintro e w' ⟨rfl, ⟨nd, rfl⟩⟩; (try first | exact ⟨rfl, _, World.drewN_drewN _ _ _⟩ | exact ⟨rfl, _, Eq.trans (World.drewN_drewN _ _ _) (congrArg (World.drewN _) (Nat.add_assoc _ _ _))⟩)))
          repeat (go_quiet (first | (go_at_call 41; (with_reducible refine (spec_l1In.calls a0_0 1 1000 true _ A4.out).mono ?_); rintro e w' ⟨rfl, ⟨nd, rfl⟩⟩; (try first | exact ⟨rfl, _, World.drewN_drewN _ _ _⟩ | exact ⟨rfl, _, Eq.trans (World.drewN_drewN _ _ _) (congrArg (World.drewN _) (Nat.add_assoc _ _ _))⟩)) | (go_at_call 41; (with_reducible refine (spec_l1In.calls a0_1 1 3 true _ A6.out).mono ?_); rintro e w' ⟨rfl, ⟨nd, rfl⟩⟩; (try first | exact ⟨rfl, _, World.drewN_drewN _ _ _⟩ | exact ⟨rfl, _, Eq.trans (World.drewN_drewN _ _ _) (congrArg (World.drewN _) (Nat.add_assoc _ _ _))⟩)) | (go_at_call 41; (with_reducible refine (spec_l1In.calls a0_2 0 3 false _ A8.out).mono ?_); rintro e w' ⟨rfl, ⟨nd, rfl⟩⟩; (try first | exact ⟨rfl, _, World.drewN_drewN _ _ _⟩ | exact ⟨rfl, _, Eq.trans (World.drewN_drewN _ _ _) (congrArg (World.drewN _) (Nat.add_assoc _ _ _))⟩))); try go_wp2_with (first | (go_at_call 41; (with_reducible refine (spec_l1In.calls a0_0 1 1000 true _ A4.out).mono ?_); rintro e w' ⟨rfl, ⟨nd, rfl⟩⟩; (try first | exact ⟨rfl, _, World.drewN_drewN _ _ _⟩ | exact ⟨rfl, _, Eq.trans (World.drewN_drewN _ _ _) (congrArg (World.drewN _) (Nat.add_assoc _ _ _))⟩)) | (go_at_call 41; (with_reducible refine (spec_l1In.calls a0_1 1 3 true _ A6.out).mono ?_); rintro e w' ⟨rfl, ⟨nd, rfl⟩⟩; (try first | exact ⟨rfl, _, World.drewN_drewN _ _ _⟩ | exact ⟨rfl, _, Eq.trans (World.drewN_drewN _ _ _) (congrArg (World.drewN _) (Nat.add_assoc _ _ _))⟩)) | (go_at_call 41; (with_reducible refine (spec_l1In.calls a0_2 0 3 false _ A8.out).mono ?_); rintro e w' ⟨rfl, ⟨nd, rfl⟩⟩; (try first | exact ⟨rfl, _, World.drewN_drewN _ _ _⟩ | exact ⟨rfl, _, Eq.trans (World.drewN_drewN _ _ _) (congrArg (World.drewN _) (Nat.add_assoc _ _ _))⟩))))
          go_meet
          case rel => exact ⟨_, (true), (by first | rfl | (simp; done) | (simp [*]; done)), H', ⟨by first | omega | exact Nat.le_refl _⟩, ⟨by (with_reducible repeat (first | refine blk_drewN ?_ _ | refine blk_drew ?_ | refine blk_alloc ?_ _)); exact BK258.out⟩, ⟨by repeat (first | (with_reducible first | exact HB.out | apply below_alloc | apply pw_below_drewN | apply below_drew1 | refine below_set ?_ GE258.out) | exact HB.out)⟩⟩
      · replace c7 := Bool.eq_false_iff.mpr c7
        subst c7
        have H1 : (spec_TaskOk0.j0 k true a0_0 a0_1 a0_2 a0_3 a0_4 a0_5 a0_6 a0_7 a0_8 a0_9 a0_10 a0_11 a0_12 a0_13) = some r := by rw [if_neg (show ¬ (false = true) by decide)] at H; exact H
        clear H
        have H := H1
        clear H1
        have H' := Aside0.mk H
        clear H
        have hcz17_0 : w3.cell? ⟨gb258, 0, none⟩ = some (.int .i64 a0_0) := (blk_cell BK258.out 0).trans rfl
        have hcz17_1 : w3.cell? ⟨gb258, 1, none⟩ = some (.int .i64 a0_1) := (blk_cell BK258.out 1).trans rfl
        have hcz17_2 : w3.cell? ⟨gb258, 2, none⟩ = some (.int .i64 a0_2) := (blk_cell BK258.out 2).trans rfl
        have hcz17_3 : w3.cell? ⟨gb258, 3, none⟩ = some (.int .i64 a0_3) := (blk_cell BK258.out 3).trans rfl
        have hcz17_4 : w3.cell? ⟨gb258, 4, none⟩ = some (.bool a0_4) := (blk_cell BK258.out 4).trans rfl
        have hcz17_5 : w3.cell? ⟨gb258, 5, none⟩ = some (.int .i64 a0_5) := (blk_cell BK258.out 5).trans rfl
        have hcz17_6 : w3.cell? ⟨gb258, 6, none⟩ = some (.int .i64 a0_6) := (blk_cell BK258.out 6).trans rfl
        have hcz17_7 : w3.cell? ⟨gb258, 7, none⟩ = some (.int .i64 a0_7) := (blk_cell BK258.out 7).trans rfl
        have hcz17_8 : w3.cell? ⟨gb258, 8, none⟩ = some (.int .i64 a0_8) := (blk_cell BK258.out 8).trans rfl
        have hcz17_9 : w3.cell? ⟨gb258, 9, none⟩ = some (.int .i64 a0_9) := (blk_cell BK258.out 9).trans rfl
        have hcz17_10 : w3.cell? ⟨gb258, 10, none⟩ = some (.int .i64 a0_10) := (blk_cell BK258.out 10).trans rfl
        have hcz17_11 : w3.cell? ⟨gb258, 11, none⟩ = some (.int .i64 a0_11) := (blk_cell BK258.out 11).trans rfl
        have hcz17_12 : w3.cell? ⟨gb258, 12, none⟩ = some (.int .i64 a0_12) := (blk_cell BK258.out 12).trans rfl
        have hcz17_13 : w3.cell? ⟨gb258, 13, none⟩ = some (.int .i64 a0_13) := (blk_cell BK258.out 13).trans rfl
        have hfz17_0 := blk_frozen BK258.out 0
        have hfz17_1 := blk_frozen BK258.out 1
        have hfz17_2 := blk_frozen BK258.out 2
        have hfz17_3 := blk_frozen BK258.out 3
        have hfz17_4 := blk_frozen BK258.out 4
        have hfz17_5 := blk_frozen BK258.out 5
        have hfz17_6 := blk_frozen BK258.out 6
        have hfz17_7 := blk_frozen BK258.out 7
        have hfz17_8 := blk_frozen BK258.out 8
        have hfz17_9 := blk_frozen BK258.out 9
        have hfz17_10 := blk_frozen BK258.out 10
        have hfz17_11 := blk_frozen BK258.out 11
        have hfz17_12 := blk_frozen BK258.out 12
        have hfz17_13 := blk_frozen BK258.out 13
        go_wp2_with (first | (go_at_call 41; (with_reducible refine (spec_l1In.calls a0_0 1 1000 true _ A4.out).mono ?_); rintro e w' ⟨rfl, ⟨nd, rfl⟩⟩; (try first | exact ⟨rfl, _, World.drewN_drewN _ _ _⟩ | exact ⟨rfl, _, Eq.trans (World.drewN_drewN _ _ _) (congrArg (World.drewN _) (Nat.add_assoc _ _ _))⟩)) | (go_at_call 41; (with_reducible refine (spec_l1In.calls a0_1 1 3 false _ A6.out).mono ?_); rintro e w' ⟨rfl, ⟨nd, rfl⟩⟩; (try first | exact ⟨rfl, _, World.drewN_drewN _ _ _⟩ | exact ⟨rfl, _, Eq.trans (World.drewN_drewN _ _ _) (congrArg (World.drewN _) (Nat.add_assoc _ _ _))⟩)))
        repeat (go_quiet (first | (go_at_call 41; (with_reducible refine (spec_l1In.calls a0_0 1 1000 true _ A4.out).mono ?_); rintro e w' ⟨rfl, ⟨nd, rfl⟩⟩; (try first | exact ⟨rfl, _, World.drewN_drewN _ _ _⟩ | exact ⟨rfl, _, Eq.trans (World.drewN_drewN _ _ _) (congrArg (World.drewN _) (Nat.add_assoc _ _ _))⟩)) | (go_at_call 41; (with_reducible refine (spec_l1In.calls a0_1 1 3 false _ A6.out).mono ?_); rintro e w' ⟨rfl, ⟨nd, rfl⟩⟩; (try first | exact ⟨rfl, _, World.drewN_drewN _ _ _⟩ | exact ⟨rfl, _, Eq.trans (World.drewN_drewN _ _ _) (congrArg (World.drewN _) (Nat.add_assoc _ _ _))⟩))); try go_wp2_with (first | (go_at_call 41; (with_reducible refine (spec_l1In.calls a0_0 1 1000 true _ A4.out).mono ?_); rintro e w' ⟨rfl, ⟨nd, rfl⟩⟩; (try first | exact ⟨rfl, _, World.drewN_drewN _ _ _⟩ | exact ⟨rfl, _, Eq.trans (World.drewN_drewN _ _ _) (congrArg (World.drewN _) (Nat.add_assoc _ _ _))⟩)) | (go_at_call 41; (with_reducible refine (spec_l1In.calls a0_1 1 3 false _ A6.out).mono ?_); rintro e w' ⟨rfl, ⟨nd, rfl⟩⟩; (try first | exact ⟨rfl, _, World.drewN_drewN _ _ _⟩ | exact ⟨rfl, _, Eq.trans (World.drewN_drewN _ _ _) (congrArg (World.drewN _) (Nat.add_assoc _ _ _))⟩))))
        go_meet
        case rel => exact ⟨_, (true), (by first | rfl | (simp; done) | (simp [*]; done)), H', ⟨by first | omega | exact Nat.le_refl _⟩, ⟨by (with_reducible repeat (first | refine blk_drewN ?_ _ | refine blk_drew ?_ | refine blk_alloc ?_ _)); exact BK258.out⟩, ⟨by repeat (first | (with_reducible first | exact HB.out | apply below_alloc | apply pw_below_drewN | apply below_drew1 | refine below_set ?_ GE258.out) | exact HB.out)⟩⟩
    · replace c5 := Bool.eq_false_iff.mpr c5
      subst c5
      have H1 : (spec_TaskOk0.j0 k true a0_0 a0_1 a0_2 a0_3 a0_4 a0_5 a0_6 a0_7 a0_8 a0_9 a0_10 a0_11 a0_12 a0_13) = some r := by rw [if_neg (show ¬ (false = true) by decide)] at H; exact H
      clear H
      have H := H1
      clear H1
      have H' := Aside0.mk H
      clear H
      have hcz18_0 : w3.cell? ⟨gb258, 0, none⟩ = some (.int .i64 a0_0) := (blk_cell BK258.out 0).trans rfl
      have hcz18_1 : w3.cell? ⟨gb258, 1, none⟩ = some (.int .i64 a0_1) := (blk_cell BK258.out 1).trans rfl
      have hcz18_2 : w3.cell? ⟨gb258, 2, none⟩ = some (.int .i64 a0_2) := (blk_cell BK258.out 2).trans rfl
      have hcz18_3 : w3.cell? ⟨gb258, 3, none⟩ = some (.int .i64 a0_3) := (blk_cell BK258.out 3).trans rfl
      have hcz18_4 : w3.cell? ⟨gb258, 4, none⟩ = some (.bool a0_4) := (blk_cell BK258.out 4).trans rfl
      have hcz18_5 : w3.cell? ⟨gb258, 5, none⟩ = some (.int .i64 a0_5) := (blk_cell BK258.out 5).trans rfl
      have hcz18_6 : w3.cell? ⟨gb258, 6, none⟩ = some (.int .i64 a0_6) := (blk_cell BK258.out 6).trans rfl
      have hcz18_7 : w3.cell? ⟨gb258, 7, none⟩ = some (.int .i64 a0_7) := (blk_cell BK258.out 7).trans rfl
      have hcz18_8 : w3.cell? ⟨gb258, 8, none⟩ = some (.int .i64 a0_8) := (blk_cell BK258.out 8).trans rfl
      have hcz18_9 : w3.cell? ⟨gb258, 9, none⟩ = some (.int .i64 a0_9) := (blk_cell BK258.out 9).trans rfl
      have hcz18_10 : w3.cell? ⟨gb258, 10, none⟩ = some (.int .i64 a0_10) := (blk_cell BK258.out 10).trans rfl
      have hcz18_11 : w3.cell? ⟨gb258, 11, none⟩ = some (.int .i64 a0_11) := (blk_cell BK258.out 11).trans rfl
      have hcz18_12 : w3.cell? ⟨gb258, 12, none⟩ = some (.int .i64 a0_12) := (blk_cell BK258.out 12).trans rfl
      have hcz18_13 : w3.cell? ⟨gb258, 13, none⟩ = some (.int .i64 a0_13) := (blk_cell BK258.out 13).trans rfl
      have hfz18_0 := blk_frozen BK258.out 0
      have hfz18_1 := blk_frozen BK258.out 1
      have hfz18_2 := blk_frozen BK258.out 2
      have hfz18_3 := blk_frozen BK258.out 3
      have hfz18_4 := blk_frozen BK258.out 4
      have hfz18_5 := blk_frozen BK258.out 5
      have hfz18_6 := blk_frozen BK258.out 6
      have hfz18_7 := blk_frozen BK258.out 7
      have hfz18_8 := blk_frozen BK258.out 8
      have hfz18_9 := blk_frozen BK258.out 9
      have hfz18_10 := blk_frozen BK258.out 10
      have hfz18_11 := blk_frozen BK258.out 11
      have hfz18_12 := blk_frozen BK258.out 12
      have hfz18_13 := blk_frozen BK258.out 13
      go_wp2_with (first | (go_at_call 41; (with_reducible refine (spec_l1In.calls a0_0 1 1000 false _ A4.out).mono ?_); rintro e w' ⟨rfl, ⟨nd, rfl⟩⟩; (try first | exact ⟨rfl, _, World.drewN_drewN _ _ _⟩ | exact ⟨rfl, _, Eq.trans (World.drewN_drewN _ _ _) (congrArg (World.drewN _) (Nat.add_assoc _ _ _))⟩)))
      repeat (go_quiet (first | (go_at_call 41; (with_reducible refine (spec_l1In.calls a0_0 1 1000 false _ A4.out).mono ?_); rintro e w' ⟨rfl, ⟨nd, rfl⟩⟩; (try first | exact ⟨rfl, _, World.drewN_drewN _ _ _⟩ | exact ⟨rfl, _, Eq.trans (World.drewN_drewN _ _ _) (congrArg (World.drewN _) (Nat.add_assoc _ _ _))⟩))); try go_wp2_with (first | (go_at_call 41; (with_reducible refine (spec_l1In.calls a0_0 1 1000 false _ A4.out).mono ?_); rintro e w' ⟨rfl, ⟨nd, rfl⟩⟩; (try first | exact ⟨rfl, _, World.drewN_drewN _ _ _⟩ | exact ⟨rfl, _, Eq.trans (World.drewN_drewN _ _ _) (congrArg (World.drewN _) (Nat.add_assoc _ _ _))⟩))))
      go_meet
      case rel => exact ⟨_, (true), (by first | rfl | (simp; done) | (simp [*]; done)), H', ⟨by first | omega | exact Nat.le_refl _⟩, ⟨by (with_reducible repeat (first | refine blk_drewN ?_ _ | refine blk_drew ?_ | refine blk_alloc ?_ _)); exact BK258.out⟩, ⟨by repeat (first | (with_reducible first | exact HB.out | apply below_alloc | apply pw_below_drewN | apply below_drew1 | refine below_set ?_ GE258.out) | exact HB.out)⟩⟩
  case rest =>
    clear HC2
    try clear c1
    try clear p2
    try clear c3
    try clear c5
    try clear c7
    try clear c9
    try clear c11
    try clear hcz13_0
    try clear hcz13_1
    try clear hcz13_10
    try clear hcz13_11
    try clear hcz13_12
    try clear hcz13_13
    try clear hcz13_2
    try clear hcz13_3
    try clear hcz13_4
    try clear hcz13_5
    try clear hcz13_6
    try clear hcz13_7
    try clear hcz13_8
    try clear hcz13_9
    try clear hcz15_0
    try clear hcz15_1
    try clear hcz15_10
    try clear hcz15_11
    try clear hcz15_12
    try clear hcz15_13
    try clear hcz15_2
    try clear hcz15_3
    try clear hcz15_4
    try clear hcz15_5
    try clear hcz15_6
    try clear hcz15_7
    try clear hcz15_8
    try clear hcz15_9
    try clear hcz16_0
    try clear hcz16_1
    try clear hcz16_10
    try clear hcz16_11
    try clear hcz16_12
    try clear hcz16_13
    try clear hcz16_2
    try clear hcz16_3
    try clear hcz16_4
    try clear hcz16_5
    try clear hcz16_6
    try clear hcz16_7
    try clear hcz16_8
    try clear hcz16_9
    try clear hcz17_0
    try clear hcz17_1
    try clear hcz17_10
    try clear hcz17_11
    try clear hcz17_12
    try clear hcz17_13
    try clear hcz17_2
    try clear hcz17_3
    try clear hcz17_4
    try clear hcz17_5
    try clear hcz17_6
    try clear hcz17_7
    try clear hcz17_8
    try clear hcz17_9
    try clear hcz18_0
    try clear hcz18_1
    try clear hcz18_10
    try clear hcz18_11
    try clear hcz18_12
    try clear hcz18_13
    try clear hcz18_2
    try clear hcz18_3
    try clear hcz18_4
    try clear hcz18_5
    try clear hcz18_6
    try clear hcz18_7
    try clear hcz18_8
    try clear hcz18_9
    try clear hfz13_0
    try clear hfz13_1
    try clear hfz13_10
    try clear hfz13_11
    try clear hfz13_12
    try clear hfz13_13
    try clear hfz13_2
    try clear hfz13_3
    try clear hfz13_4
    try clear hfz13_5
    try clear hfz13_6
    try clear hfz13_7
    try clear hfz13_8
    try clear hfz13_9
    try clear hfz15_0
    try clear hfz15_1
    try clear hfz15_10
    try clear hfz15_11
    try clear hfz15_12
    try clear hfz15_13
    try clear hfz15_2
    try clear hfz15_3
    try clear hfz15_4
    try clear hfz15_5
    try clear hfz15_6
    try clear hfz15_7
    try clear hfz15_8
    try clear hfz15_9
    try clear hfz16_0
    try clear hfz16_1
    try clear hfz16_10
    try clear hfz16_11
    try clear hfz16_12
    try clear hfz16_13
    try clear hfz16_2
    try clear hfz16_3
    try clear hfz16_4
    try clear hfz16_5
    try clear hfz16_6
    try clear hfz16_7
    try clear hfz16_8
    try clear hfz16_9
    try clear hfz17_0
    try clear hfz17_1
    try clear hfz17_10
    try clear hfz17_11
    try clear hfz17_12
    try clear hfz17_13
    try clear hfz17_2
    try clear hfz17_3
    try clear hfz17_4
    try clear hfz17_5
    try clear hfz17_6
    try clear hfz17_7
    try clear hfz17_8
    try clear hfz17_9
    try clear hfz18_0
    try clear hfz18_1
    try clear hfz18_10
    try clear hfz18_11
    try clear hfz18_12
    try clear hfz18_13
    try clear hfz18_2
    try clear hfz18_3
    try clear hfz18_4
    try clear hfz18_5
    try clear hfz18_6
    try clear hfz18_7
    try clear hfz18_8
    try clear hfz18_9
    obtain ⟨kq, x29_1, rfl, HA, HJ1, BK258, HB⟩ := hcut
    cases kq with
    | zero => exact absurd HA.out (by simp [spec_TaskOk0.j0])
    | succ kj1 =>
      have H := HA.out
      clear HA
      simp only [spec_TaskOk0.j0] at H
      by_cases c19 : x29_1 = true
      · subst c19
        have H1 : (some false) = some r := by rw [if_pos rfl] at H; exact H
        clear H
        have H := H1
        clear H1
        obtain rfl := Option.some.inj H
        go_wp2
        repeat (go_quiet (fail); try go_wp2)
        go_ret
        exact ⟨by first | rfl | (simp [errW_none, errW_some] <;> rfl) | (simp [*, errW_none, errW_some] <;> rfl), by repeat (first | (with_reducible first | exact HB.out | apply below_alloc | apply pw_below_drewN | apply below_drew1 | refine below_set ?_ GE258.out) | exact HB.out)⟩
      · replace c19 := Bool.eq_false_iff.mpr c19
        subst c19
        have H1 : (if a0_1 = 1 then ((spec_ShareOk.f a0_5 a0_6).bind fun t264 => (if t264 = true then ((spec_l1In.f a0_7 0 a0_5).bind fun t265 => (if t265 = true then ((spec_l1In.f a0_8 0 100040).bind fun t266 => (some t266)) else (some false))) else (some false))) else (if a0_1 = 2 then ((spec_l1In.f a0_9 1 20).bind fun t267 => (if t267 = true then ((spec_l1In.f a0_10 0 10).bind fun t268 => (if t268 = true then ((spec_l1Min.f a0_10 1).bind fun t269 => ((spec_l1In.f a0_7 t269 a0_10).bind fun t270 => (if t270 = true then ((spec_l1In.f a0_11 0 1000000).bind fun t271 => (some t271)) else (some false)))) else (some false))) else (some false))) else ((spec_NiceOk.f a0_12).bind fun t272 => (if t272 = true then ((spec_l1In.f a0_13 0 100000000).bind fun t273 => (some t273)) else (some false))))) = some r := by rw [if_neg (show ¬ (false = true) by decide)] at H; exact H
        clear H
        have H := H1
        clear H1
        by_cases c20 : a0_1 = 1
        · rw [if_pos c20] at H
          have c20b0 : (a0_1 == 1) = true := beq_iff_eq.mpr c20
          have c20b1 : (a0_1 != 1) = false := bne_eq_false_iff_eq.mpr c20
          clear c20
          replace H := Option.bind_eq_some_iff.mp H
          obtain ⟨t264, A210, H⟩ := H
          replace H : (if t264 = true then ((spec_l1In.f a0_7 0 a0_5).bind fun t265 => (if t265 = true then ((spec_l1In.f a0_8 0 100040).bind fun t266 => (some t266)) else (some false))) else (some false)) = some r := H
          have A21 := Aside0.mk A210
          clear A210
          by_cases c22 : t264 = true
          · subst c22
            have H1 : ((spec_l1In.f a0_7 0 a0_5).bind fun t265 => (if t265 = true then ((spec_l1In.f a0_8 0 100040).bind fun t266 => (some t266)) else (some false))) = some r := by rw [if_pos rfl] at H; exact H
            clear H
            have H := H1
            clear H1
            replace H := Option.bind_eq_some_iff.mp H
            obtain ⟨t265, A230, H⟩ := H
            replace H : (if t265 = true then ((spec_l1In.f a0_8 0 100040).bind fun t266 => (some t266)) else (some false)) = some r := H
            have A23 := Aside0.mk A230
            clear A230
            by_cases c24 : t265 = true
            · subst c24
              have H1 : ((spec_l1In.f a0_8 0 100040).bind fun t266 => (some t266)) = some r := by rw [if_pos rfl] at H; exact H
              clear H
              have H := H1
              clear H1
              replace H := Option.bind_eq_some_iff.mp H
              obtain ⟨t266, A250, H⟩ := H
              replace H : (some t266) = some r := H
              have A25 := Aside0.mk A250
              clear A250
              obtain rfl := Option.some.inj H
              have hcz26_0 : wc.cell? ⟨gb258, 0, none⟩ = some (.int .i64 a0_0) := (blk_cell BK258.out 0).trans rfl
              have hcz26_1 : wc.cell? ⟨gb258, 1, none⟩ = some (.int .i64 a0_1) := (blk_cell BK258.out 1).trans rfl
              have hcz26_2 : wc.cell? ⟨gb258, 2, none⟩ = some (.int .i64 a0_2) := (blk_cell BK258.out 2).trans rfl
              have hcz26_3 : wc.cell? ⟨gb258, 3, none⟩ = some (.int .i64 a0_3) := (blk_cell BK258.out 3).trans rfl
              have hcz26_4 : wc.cell? ⟨gb258, 4, none⟩ = some (.bool a0_4) := (blk_cell BK258.out 4).trans rfl
              have hcz26_5 : wc.cell? ⟨gb258, 5, none⟩ = some (.int .i64 a0_5) := (blk_cell BK258.out 5).trans rfl
              have hcz26_6 : wc.cell? ⟨gb258, 6, none⟩ = some (.int .i64 a0_6) := (blk_cell BK258.out 6).trans rfl
              have hcz26_7 : wc.cell? ⟨gb258, 7, none⟩ = some (.int .i64 a0_7) := (blk_cell BK258.out 7).trans rfl
              have hcz26_8 : wc.cell? ⟨gb258, 8, none⟩ = some (.int .i64 a0_8) := (blk_cell BK258.out 8).trans rfl
              have hcz26_9 : wc.cell? ⟨gb258, 9, none⟩ = some (.int .i64 a0_9) := (blk_cell BK258.out 9).trans rfl
              have hcz26_10 : wc.cell? ⟨gb258, 10, none⟩ = some (.int .i64 a0_10) := (blk_cell BK258.out 10).trans rfl
              have hcz26_11 : wc.cell? ⟨gb258, 11, none⟩ = some (.int .i64 a0_11) := (blk_cell BK258.out 11).trans rfl
              have hcz26_12 : wc.cell? ⟨gb258, 12, none⟩ = some (.int .i64 a0_12) := (blk_cell BK258.out 12).trans rfl
              have hcz26_13 : wc.cell? ⟨gb258, 13, none⟩ = some (.int .i64 a0_13) := (blk_cell BK258.out 13).trans rfl
              have hfz26_0 := blk_frozen BK258.out 0
              have hfz26_1 := blk_frozen BK258.out 1
              have hfz26_2 := blk_frozen BK258.out 2
              have hfz26_3 := blk_frozen BK258.out 3
              have hfz26_4 := blk_frozen BK258.out 4
              have hfz26_5 := blk_frozen BK258.out 5
              have hfz26_6 := blk_frozen BK258.out 6
              have hfz26_7 := blk_frozen BK258.out 7
              have hfz26_8 := blk_frozen BK258.out 8
              have hfz26_9 := blk_frozen BK258.out 9
              have hfz26_10 := blk_frozen BK258.out 10
              have hfz26_11 := blk_frozen BK258.out 11
              have hfz26_12 := blk_frozen BK258.out 12
              have hfz26_13 := blk_frozen BK258.out 13
              go_wp2_with (first | (go_at_call 17; (with_reducible refine (spec_ShareOk.calls a0_5 a0_6 true _ A21.out).mono ?_); rintro e w27 ⟨rfl, hb⟩; have n0_ := Aside0.mk (blk_below (g := gb258) (o := .cells #[.int .i64 a0_0, .int .i64 a0_1, .int .i64 a0_2, .int .i64 a0_3, .bool a0_4, .int .i64 a0_5, .int .i64 a0_6, .int .i64 a0_7, .int .i64 a0_8, .int .i64 a0_9, .int .i64 a0_10, .int .i64 a0_11, .int .i64 a0_12, .int .i64 a0_13] 48 (0, 0)) (by (with_reducible repeat (first | refine blk_drewN ?_ _ | refine blk_drew ?_ | refine blk_alloc ?_ _)); exact BK258.out) hb); have n1_ := Aside0.mk (below_step (by repeat (first | (with_reducible first | exact HB.out | apply below_alloc | apply pw_below_drewN | apply below_drew1 | refine below_set ?_ GE258.out) | exact HB.out)) hb); clear BK258; clear HB; have BK258 := n0_; have HB := n1_; clear n0_ n1_; (try clear hb); (try clear hb2); (try clear hk); (try clear hi); have hcz28_0 : w27.cell? ⟨gb258, 0, none⟩ = some (.int .i64 a0_0) := (blk_cell BK258.out 0).trans rfl; have hcz28_1 : w27.cell? ⟨gb258, 1, none⟩ = some (.int .i64 a0_1) := (blk_cell BK258.out 1).trans rfl; have hcz28_2 : w27.cell? ⟨gb258, 2, none⟩ = some (.int .i64 a0_2) := (blk_cell BK258.out 2).trans rfl; have hcz28_3 : w27.cell? ⟨gb258, 3, none⟩ = some (.int .i64 a0_3) := (blk_cell BK258.out 3).trans rfl; have hcz28_4 : w27.cell? ⟨gb258, 4, none⟩ = some (.bool a0_4) := (blk_cell BK258.out 4).trans rfl; have hcz28_5 : w27.cell? ⟨gb258, 5, none⟩ = some (.int .i64 a0_5) := (blk_cell BK258.out 5).trans rfl; have hcz28_6 : w27.cell? ⟨gb258, 6, none⟩ = some (.int .i64 a0_6) := (blk_cell BK258.out 6).trans rfl; have hcz28_7 : w27.cell? ⟨gb258, 7, none⟩ = some (.int .i64 a0_7) := (blk_cell BK258.out 7).trans rfl; have hcz28_8 : w27.cell? ⟨gb258, 8, none⟩ = some (.int .i64 a0_8) := (blk_cell BK258.out 8).trans rfl; have hcz28_9 : w27.cell? ⟨gb258, 9, none⟩ = some (.int .i64 a0_9) := (blk_cell BK258.out 9).trans rfl; have hcz28_10 : w27.cell? ⟨gb258, 10, none⟩ = some (.int .i64 a0_10) := (blk_cell BK258.out 10).trans rfl; have hcz28_11 : w27.cell? ⟨gb258, 11, none⟩ = some (.int .i64 a0_11) := (blk_cell BK258.out 11).trans rfl; have hcz28_12 : w27.cell? ⟨gb258, 12, none⟩ = some (.int .i64 a0_12) := (blk_cell BK258.out 12).trans rfl; have hcz28_13 : w27.cell? ⟨gb258, 13, none⟩ = some (.int .i64 a0_13) := (blk_cell BK258.out 13).trans rfl; have hfz28_0 := blk_frozen BK258.out 0; have hfz28_1 := blk_frozen BK258.out 1; have hfz28_2 := blk_frozen BK258.out 2; have hfz28_3 := blk_frozen BK258.out 3; have hfz28_4 := blk_frozen BK258.out 4; have hfz28_5 := blk_frozen BK258.out 5; have hfz28_6 := blk_frozen BK258.out 6; have hfz28_7 := blk_frozen BK258.out 7; have hfz28_8 := blk_frozen BK258.out 8; have hfz28_9 := blk_frozen BK258.out 9; have hfz28_10 := blk_frozen BK258.out 10; have hfz28_11 := blk_frozen BK258.out 11; have hfz28_12 := blk_frozen BK258.out 12; have hfz28_13 := blk_frozen BK258.out 13) | (go_at_call 41; (with_reducible refine (spec_l1In.calls a0_7 0 a0_5 true _ A23.out).mono ?_); rintro e w' ⟨rfl, ⟨nd, rfl⟩⟩; (try first | exact ⟨rfl, _, World.drewN_drewN _ _ _⟩ | exact ⟨rfl, _, Eq.trans (World.drewN_drewN _ _ _) (congrArg (World.drewN _) (Nat.add_assoc _ _ _))⟩)) | (go_at_call 41; (with_reducible refine (spec_l1In.calls a0_8 0 100040 t266 _ A25.out).mono ?_); rintro e w' ⟨rfl, ⟨nd, rfl⟩⟩; (try first | exact ⟨rfl, _, World.drewN_drewN _ _ _⟩ | exact ⟨rfl, _, Eq.trans (World.drewN_drewN _ _ _) (congrArg (World.drewN _) (Nat.add_assoc _ _ _))⟩)))
              repeat (go_quiet (first | (go_at_call 17; (with_reducible refine (spec_ShareOk.calls a0_5 a0_6 true _ A21.out).mono ?_); rintro e w27 ⟨rfl, hb⟩; have n0_ := Aside0.mk (blk_below (g := gb258) (o := .cells #[.int .i64 a0_0, .int .i64 a0_1, .int .i64 a0_2, .int .i64 a0_3, .bool a0_4, .int .i64 a0_5, .int .i64 a0_6, .int .i64 a0_7, .int .i64 a0_8, .int .i64 a0_9, .int .i64 a0_10, .int .i64 a0_11, .int .i64 a0_12, .int .i64 a0_13] 48 (0, 0)) (by (with_reducible repeat (first | refine blk_drewN ?_ _ | refine blk_drew ?_ | refine blk_alloc ?_ _)); exact BK258.out) hb); have n1_ := Aside0.mk (below_step (by repeat (first | (with_reducible first | exact HB.out | apply below_alloc | apply pw_below_drewN | apply below_drew1 | refine below_set ?_ GE258.out) | exact HB.out)) hb); clear BK258; clear HB; have BK258 := n0_; have HB := n1_; clear n0_ n1_; (try clear hb); (try clear hb2); (try clear hk); (try clear hi); have hcz28_0 : w27.cell? ⟨gb258, 0, none⟩ = some (.int .i64 a0_0) := (blk_cell BK258.out 0).trans rfl; have hcz28_1 : w27.cell? ⟨gb258, 1, none⟩ = some (.int .i64 a0_1) := (blk_cell BK258.out 1).trans rfl; have hcz28_2 : w27.cell? ⟨gb258, 2, none⟩ = some (.int .i64 a0_2) := (blk_cell BK258.out 2).trans rfl; have hcz28_3 : w27.cell? ⟨gb258, 3, none⟩ = some (.int .i64 a0_3) := (blk_cell BK258.out 3).trans rfl; have hcz28_4 : w27.cell? ⟨gb258, 4, none⟩ = some (.bool a0_4) := (blk_cell BK258.out 4).trans rfl; have hcz28_5 : w27.cell? ⟨gb258, 5, none⟩ = some (.int .i64 a0_5) := (blk_cell BK258.out 5).trans rfl; have hcz28_6 : w27.cell? ⟨gb258, 6, none⟩ = some (.int .i64 a0_6) := (blk_cell BK258.out 6).trans rfl; have hcz28_7 : w27.cell? ⟨gb258, 7, none⟩ = some (.int .i64 a0_7) := (blk_cell BK258.out 7).trans rfl; have hcz28_8 : w27.cell? ⟨gb258, 8, none⟩ = some (.int .i64 a0_8) := (blk_cell BK258.out 8).trans rfl; have hcz28_9 : w27.cell? ⟨gb258, 9, none⟩ = some (.int .i64 a0_9) := (blk_cell BK258.out 9).trans rfl; have hcz28_10 : w27.cell? ⟨gb258, 10, none⟩ = some (.int .i64 a0_10) := (blk_cell BK258.out 10).trans rfl; have hcz28_11 : w27.cell? ⟨gb258, 11, none⟩ = some (.int .i64 a0_11) := (blk_cell BK258.out 11).trans rfl; have hcz28_12 : w27.cell? ⟨gb258, 12, none⟩ = some (.int .i64 a0_12) := (blk_cell BK258.out 12).trans rfl; have hcz28_13 : w27.cell? ⟨gb258, 13, none⟩ = some (.int .i64 a0_13) := (blk_cell BK258.out 13).trans rfl; have hfz28_0 := blk_frozen BK258.out 0; have hfz28_1 := blk_frozen BK258.out 1; have hfz28_2 := blk_frozen BK258.out 2; have hfz28_3 := blk_frozen BK258.out 3; have hfz28_4 := blk_frozen BK258.out 4; have hfz28_5 := blk_frozen BK258.out 5; have hfz28_6 := blk_frozen BK258.out 6; have hfz28_7 := blk_frozen BK258.out 7; have hfz28_8 := blk_frozen BK258.out 8; have hfz28_9 := blk_frozen BK258.out 9; have hfz28_10 := blk_frozen BK258.out 10; have hfz28_11 := blk_frozen BK258.out 11; have hfz28_12 := blk_frozen BK258.out 12; have hfz28_13 := blk_frozen BK258.out 13) | (go_at_call 41; (with_reducible refine (spec_l1In.calls a0_7 0 a0_5 true _ A23.out).mono ?_); rintro e w' ⟨rfl, ⟨nd, rfl⟩⟩; (try first | exact ⟨rfl, _, World.drewN_drewN _ _ _⟩ | exact ⟨rfl, _, Eq.trans (World.drewN_drewN _ _ _) (congrArg (World.drewN _) (Nat.add_assoc _ _ _))⟩)) | (go_at_call 41; (with_reducible refine (spec_l1In.calls a0_8 0 100040 t266 _ A25.out).mono ?_); rintro e w' ⟨rfl, ⟨nd, rfl⟩⟩; (try first | exact ⟨rfl, _, World.drewN_drewN _ _ _⟩ | exact ⟨rfl, _, Eq.trans (World.drewN_drewN _ _ _) (congrArg (World.drewN _) (Nat.add_assoc _ _ _))⟩))); try go_wp2_with (first | (go_at_call 17; (with_reducible refine (spec_ShareOk.calls a0_5 a0_6 true _ A21.out).mono ?_); rintro e w27 ⟨rfl, hb⟩; have n0_ := Aside0.mk (blk_below (g := gb258) (o := .cells #[.int .i64 a0_0, .int .i64 a0_1, .int .i64 a0_2, .int .i64 a0_3, .bool a0_4, .int .i64 a0_5, .int .i64 a0_6, .int .i64 a0_7, .int .i64 a0_8, .int .i64 a0_9, .int .i64 a0_10, .int .i64 a0_11, .int .i64 a0_12, .int .i64 a0_13] 48 (0, 0)) (by (with_reducible repeat (first | refine blk_drewN ?_ _ | refine blk_drew ?_ | refine blk_alloc ?_ _)); exact BK258.out) hb); have n1_ := Aside0.mk (below_step (by repeat (first | (with_reducible first | exact HB.out | apply below_alloc | apply pw_below_drewN | apply below_drew1 | refine below_set ?_ GE258.out) | exact HB.out)) hb); clear BK258; clear HB; have BK258 := n0_; have HB := n1_; clear n0_ n1_; (try clear hb); (try clear hb2); (try clear hk); (try clear hi); have hcz28_0 : w27.cell? ⟨gb258, 0, none⟩ = some (.int .i64 a0_0) := (blk_cell BK258.out 0).trans rfl; have hcz28_1 : w27.cell? ⟨gb258, 1, none⟩ = some (.int .i64 a0_1) := (blk_cell BK258.out 1).trans rfl; have hcz28_2 : w27.cell? ⟨gb258, 2, none⟩ = some (.int .i64 a0_2) := (blk_cell BK258.out 2).trans rfl; have hcz28_3 : w27.cell? ⟨gb258, 3, none⟩ = some (.int .i64 a0_3) := (blk_cell BK258.out 3).trans rfl; have hcz28_4 : w27.cell? ⟨gb258, 4, none⟩ = some (.bool a0_4) := (blk_cell BK258.out 4).trans rfl; have hcz28_5 : w27.cell? ⟨gb258, 5, none⟩ = some (.int .i64 a0_5) := (blk_cell BK258.out 5).trans rfl; have hcz28_6 : w27.cell? ⟨gb258, 6, none⟩ = some (.int .i64 a0_6) := (blk_cell BK258.out 6).trans rfl; have hcz28_7 : w27.cell? ⟨gb258, 7, none⟩ = some (.int .i64 a0_7) := (blk_cell BK258.out 7).trans rfl; have hcz28_8 : w27.cell? ⟨gb258, 8, none⟩ = some (.int .i64 a0_8) := (blk_cell BK258.out 8).trans rfl; have hcz28_9 : w27.cell? ⟨gb258, 9, none⟩ = some (.int .i64 a0_9) := (blk_cell BK258.out 9).trans rfl; have hcz28_10 : w27.cell? ⟨gb258, 10, none⟩ = some (.int .i64 a0_10) := (blk_cell BK258.out 10).trans rfl; have hcz28_11 : w27.cell? ⟨gb258, 11, none⟩ = some (.int .i64 a0_11) := (blk_cell BK258.out 11).trans rfl; have hcz28_12 : w27.cell? ⟨gb258, 12, none⟩ = some (.int .i64 a0_12) := (blk_cell BK258.out 12).trans rfl; have hcz28_13 : w27.cell? ⟨gb258, 13, none⟩ = some (.int .i64 a0_13) := (blk_cell BK258.out 13).trans rfl; have hfz28_0 := blk_frozen BK258.out 0; have hfz28_1 := blk_frozen BK258.out 1; have hfz28_2 := blk_frozen BK258.out 2; have hfz28_3 := blk_frozen BK258.out 3; have hfz28_4 := blk_frozen BK258.out 4; have hfz28_5 := blk_frozen BK258.out 5; have hfz28_6 := blk_frozen BK258.out 6; have hfz28_7 := blk_frozen BK258.out 7; have hfz28_8 := blk_frozen BK258.out 8; have hfz28_9 := blk_frozen BK258.out 9; have hfz28_10 := blk_frozen BK258.out 10; have hfz28_11 := blk_frozen BK258.out 11; have hfz28_12 := blk_frozen BK258.out 12; have hfz28_13 := blk_frozen BK258.out 13) | (go_at_call 41; (with_reducible refine (spec_l1In.calls a0_7 0 a0_5 true _ A23.out).mono ?_); rintro e w' ⟨rfl, ⟨nd, rfl⟩⟩; (try first | exact ⟨rfl, _, World.drewN_drewN _ _ _⟩ | exact ⟨rfl, _, Eq.trans (World.drewN_drewN _ _ _) (congrArg (World.drewN _) (Nat.add_assoc _ _ _))⟩)) | (go_at_call 41; (with_reducible refine (spec_l1In.calls a0_8 0 100040 t266 _ A25.out).mono ?_); rintro e w' ⟨rfl, ⟨nd, rfl⟩⟩; (try first | exact ⟨rfl, _, World.drewN_drewN _ _ _⟩ | exact ⟨rfl, _, Eq.trans (World.drewN_drewN _ _ _) (congrArg (World.drewN _) (Nat.add_assoc _ _ _))⟩))))
              go_ret
              exact ⟨by first | rfl | (simp [errW_none, errW_some] <;> rfl) | (simp [*, errW_none, errW_some] <;> rfl), by repeat (first | (with_reducible first | exact HB.out | apply below_alloc | apply pw_below_drewN | apply below_drew1 | refine below_set ?_ GE258.out) | exact HB.out)⟩
            · replace c24 := Bool.eq_false_iff.mpr c24
              subst c24
              have H1 : (some false) = some r := by rw [if_neg (show ¬ (false = true) by decide)] at H; exact H
              clear H
              have H := H1
              clear H1
              obtain rfl := Option.some.inj H
              have hcz29_0 : wc.cell? ⟨gb258, 0, none⟩ = some (.int .i64 a0_0) := (blk_cell BK258.out 0).trans rfl
              have hcz29_1 : wc.cell? ⟨gb258, 1, none⟩ = some (.int .i64 a0_1) := (blk_cell BK258.out 1).trans rfl
              have hcz29_2 : wc.cell? ⟨gb258, 2, none⟩ = some (.int .i64 a0_2) := (blk_cell BK258.out 2).trans rfl
              have hcz29_3 : wc.cell? ⟨gb258, 3, none⟩ = some (.int .i64 a0_3) := (blk_cell BK258.out 3).trans rfl
              have hcz29_4 : wc.cell? ⟨gb258, 4, none⟩ = some (.bool a0_4) := (blk_cell BK258.out 4).trans rfl
              have hcz29_5 : wc.cell? ⟨gb258, 5, none⟩ = some (.int .i64 a0_5) := (blk_cell BK258.out 5).trans rfl
              have hcz29_6 : wc.cell? ⟨gb258, 6, none⟩ = some (.int .i64 a0_6) := (blk_cell BK258.out 6).trans rfl
              have hcz29_7 : wc.cell? ⟨gb258, 7, none⟩ = some (.int .i64 a0_7) := (blk_cell BK258.out 7).trans rfl
              have hcz29_8 : wc.cell? ⟨gb258, 8, none⟩ = some (.int .i64 a0_8) := (blk_cell BK258.out 8).trans rfl
              have hcz29_9 : wc.cell? ⟨gb258, 9, none⟩ = some (.int .i64 a0_9) := (blk_cell BK258.out 9).trans rfl
              have hcz29_10 : wc.cell? ⟨gb258, 10, none⟩ = some (.int .i64 a0_10) := (blk_cell BK258.out 10).trans rfl
              have hcz29_11 : wc.cell? ⟨gb258, 11, none⟩ = some (.int .i64 a0_11) := (blk_cell BK258.out 11).trans rfl
              have hcz29_12 : wc.cell? ⟨gb258, 12, none⟩ = some (.int .i64 a0_12) := (blk_cell BK258.out 12).trans rfl
              have hcz29_13 : wc.cell? ⟨gb258, 13, none⟩ = some (.int .i64 a0_13) := (blk_cell BK258.out 13).trans rfl
              have hfz29_0 := blk_frozen BK258.out 0
              have hfz29_1 := blk_frozen BK258.out 1
              have hfz29_2 := blk_frozen BK258.out 2
              have hfz29_3 := blk_frozen BK258.out 3
              have hfz29_4 := blk_frozen BK258.out 4
              have hfz29_5 := blk_frozen BK258.out 5
              have hfz29_6 := blk_frozen BK258.out 6
              have hfz29_7 := blk_frozen BK258.out 7
              have hfz29_8 := blk_frozen BK258.out 8
              have hfz29_9 := blk_frozen BK258.out 9
              have hfz29_10 := blk_frozen BK258.out 10
              have hfz29_11 := blk_frozen BK258.out 11
              have hfz29_12 := blk_frozen BK258.out 12
              have hfz29_13 := blk_frozen BK258.out 13
              go_wp2_with (first | (go_at_call 17; (with_reducible refine (spec_ShareOk.calls a0_5 a0_6 true _ A21.out).mono ?_); rintro e w30 ⟨rfl, hb⟩; have n0_ := Aside0.mk (blk_below (g := gb258) (o := .cells #[.int .i64 a0_0, .int .i64 a0_1, .int .i64 a0_2, .int .i64 a0_3, .bool a0_4, .int .i64 a0_5, .int .i64 a0_6, .int .i64 a0_7, .int .i64 a0_8, .int .i64 a0_9, .int .i64 a0_10, .int .i64 a0_11, .int .i64 a0_12, .int .i64 a0_13] 48 (0, 0)) (by (with_reducible repeat (first | refine blk_drewN ?_ _ | refine blk_drew ?_ | refine blk_alloc ?_ _)); exact BK258.out) hb); have n1_ := Aside0.mk (below_step (by repeat (first | (with_reducible first | exact HB.out | apply below_alloc | apply pw_below_drewN | apply below_drew1 | refine below_set ?_ GE258.out) | exact HB.out)) hb); clear BK258; clear HB; have BK258 := n0_; have HB := n1_; clear n0_ n1_; (try clear hb); (try clear hb2); (try clear hk); (try clear hi); have hcz31_0 : w30.cell? ⟨gb258, 0, none⟩ = some (.int .i64 a0_0) := (blk_cell BK258.out 0).trans rfl; have hcz31_1 : w30.cell? ⟨gb258, 1, none⟩ = some (.int .i64 a0_1) := (blk_cell BK258.out 1).trans rfl; have hcz31_2 : w30.cell? ⟨gb258, 2, none⟩ = some (.int .i64 a0_2) := (blk_cell BK258.out 2).trans rfl; have hcz31_3 : w30.cell? ⟨gb258, 3, none⟩ = some (.int .i64 a0_3) := (blk_cell BK258.out 3).trans rfl; have hcz31_4 : w30.cell? ⟨gb258, 4, none⟩ = some (.bool a0_4) := (blk_cell BK258.out 4).trans rfl; have hcz31_5 : w30.cell? ⟨gb258, 5, none⟩ = some (.int .i64 a0_5) := (blk_cell BK258.out 5).trans rfl; have hcz31_6 : w30.cell? ⟨gb258, 6, none⟩ = some (.int .i64 a0_6) := (blk_cell BK258.out 6).trans rfl; have hcz31_7 : w30.cell? ⟨gb258, 7, none⟩ = some (.int .i64 a0_7) := (blk_cell BK258.out 7).trans rfl; have hcz31_8 : w30.cell? ⟨gb258, 8, none⟩ = some (.int .i64 a0_8) := (blk_cell BK258.out 8).trans rfl; have hcz31_9 : w30.cell? ⟨gb258, 9, none⟩ = some (.int .i64 a0_9) := (blk_cell BK258.out 9).trans rfl; have hcz31_10 : w30.cell? ⟨gb258, 10, none⟩ = some (.int .i64 a0_10) := (blk_cell BK258.out 10).trans rfl; have hcz31_11 : w30.cell? ⟨gb258, 11, none⟩ = some (.int .i64 a0_11) := (blk_cell BK258.out 11).trans rfl; have hcz31_12 : w30.cell? ⟨gb258, 12, none⟩ = some (.int .i64 a0_12) := (blk_cell BK258.out 12).trans rfl; have hcz31_13 : w30.cell? ⟨gb258, 13, none⟩ = some (.int .i64 a0_13) := (blk_cell BK258.out 13).trans rfl; have hfz31_0 := blk_frozen BK258.out 0; have hfz31_1 := blk_frozen BK258.out 1; have hfz31_2 := blk_frozen BK258.out 2; have hfz31_3 := blk_frozen BK258.out 3; have hfz31_4 := blk_frozen BK258.out 4; have hfz31_5 := blk_frozen BK258.out 5; have hfz31_6 := blk_frozen BK258.out 6; have hfz31_7 := blk_frozen BK258.out 7; have hfz31_8 := blk_frozen BK258.out 8; have hfz31_9 := blk_frozen BK258.out 9; have hfz31_10 := blk_frozen BK258.out 10; have hfz31_11 := blk_frozen BK258.out 11; have hfz31_12 := blk_frozen BK258.out 12; have hfz31_13 := blk_frozen BK258.out 13) | (go_at_call 41; (with_reducible refine (spec_l1In.calls a0_7 0 a0_5 false _ A23.out).mono ?_); rintro e w' ⟨rfl, ⟨nd, rfl⟩⟩; (try first | exact ⟨rfl, _, World.drewN_drewN _ _ _⟩ | exact ⟨rfl, _, Eq.trans (World.drewN_drewN _ _ _) (congrArg (World.drewN _) (Nat.add_assoc _ _ _))⟩)))
              repeat (go_quiet (first | (go_at_call 17; (with_reducible refine (spec_ShareOk.calls a0_5 a0_6 true _ A21.out).mono ?_); rintro e w30 ⟨rfl, hb⟩; have n0_ := Aside0.mk (blk_below (g := gb258) (o := .cells #[.int .i64 a0_0, .int .i64 a0_1, .int .i64 a0_2, .int .i64 a0_3, .bool a0_4, .int .i64 a0_5, .int .i64 a0_6, .int .i64 a0_7, .int .i64 a0_8, .int .i64 a0_9, .int .i64 a0_10, .int .i64 a0_11, .int .i64 a0_12, .int .i64 a0_13] 48 (0, 0)) (by (with_reducible repeat (first | refine blk_drewN ?_ _ | refine blk_drew ?_ | refine blk_alloc ?_ _)); exact BK258.out) hb); have n1_ := Aside0.mk (below_step (by repeat (first | (with_reducible first | exact HB.out | apply below_alloc | apply pw_below_drewN | apply below_drew1 | refine below_set ?_ GE258.out) | exact HB.out)) hb); clear BK258; clear HB; have BK258 := n0_; have HB := n1_; clear n0_ n1_; (try clear hb); (try clear hb2); (try clear hk); (try clear hi); have hcz31_0 : w30.cell? ⟨gb258, 0, none⟩ = some (.int .i64 a0_0) := (blk_cell BK258.out 0).trans rfl; have hcz31_1 : w30.cell? ⟨gb258, 1, none⟩ = some (.int .i64 a0_1) := (blk_cell BK258.out 1).trans rfl; have hcz31_2 : w30.cell? ⟨gb258, 2, none⟩ = some (.int .i64 a0_2) := (blk_cell BK258.out 2).trans rfl; have hcz31_3 : w30.cell? ⟨gb258, 3, none⟩ = some (.int .i64 a0_3) := (blk_cell BK258.out 3).trans rfl; have hcz31_4 : w30.cell? ⟨gb258, 4, none⟩ = some (.bool a0_4) := (blk_cell BK258.out 4).trans rfl; have hcz31_5 : w30.cell? ⟨gb258, 5, none⟩ = some (.int .i64 a0_5) := (blk_cell BK258.out 5).trans rfl; have hcz31_6 : w30.cell? ⟨gb258, 6, none⟩ = some (.int .i64 a0_6) := (blk_cell BK258.out 6).trans rfl; have hcz31_7 : w30.cell? ⟨gb258, 7, none⟩ = some (.int .i64 a0_7) := (blk_cell BK258.out 7).trans rfl; have hcz31_8 : w30.cell? ⟨gb258, 8, none⟩ = some (.int .i64 a0_8) := (blk_cell BK258.out 8).trans rfl; have hcz31_9 : w30.cell? ⟨gb258, 9, none⟩ = some (.int .i64 a0_9) := (blk_cell BK258.out 9).trans rfl; have hcz31_10 : w30.cell? ⟨gb258, 10, none⟩ = some (.int .i64 a0_10) := (blk_cell BK258.out 10).trans rfl; have hcz31_11 : w30.cell? ⟨gb258, 11, none⟩ = some (.int .i64 a0_11) := (blk_cell BK258.out 11).trans rfl; have hcz31_12 : w30.cell? ⟨gb258, 12, none⟩ = some (.int .i64 a0_12) := (blk_cell BK258.out 12).trans rfl; have hcz31_13 : w30.cell? ⟨gb258, 13, none⟩ = some (.int .i64 a0_13) := (blk_cell BK258.out 13).trans rfl; have hfz31_0 := blk_frozen BK258.out 0; have hfz31_1 := blk_frozen BK258.out 1; have hfz31_2 := blk_frozen BK258.out 2; have hfz31_3 := blk_frozen BK258.out 3; have hfz31_4 := blk_frozen BK258.out 4; have hfz31_5 := blk_frozen BK258.out 5; have hfz31_6 := blk_frozen BK258.out 6; have hfz31_7 := blk_frozen BK258.out 7; have hfz31_8 := blk_frozen BK258.out 8; have hfz31_9 := blk_frozen BK258.out 9; have hfz31_10 := blk_frozen BK258.out 10; have hfz31_11 := blk_frozen BK258.out 11; have hfz31_12 := blk_frozen BK258.out 12; have hfz31_13 := blk_frozen BK258.out 13) | (go_at_call 41; (with_reducible refine (spec_l1In.calls a0_7 0 a0_5 false _ A23.out).mono ?_); rintro e w' ⟨rfl, ⟨nd, rfl⟩⟩; (try first | exact ⟨rfl, _, World.drewN_drewN _ _ _⟩ | exact ⟨rfl, _, Eq.trans (World.drewN_drewN _ _ _) (congrArg (World.drewN _) (Nat.add_assoc _ _ _))⟩))); try go_wp2_with (first | (go_at_call 17; (with_reducible refine (spec_ShareOk.calls a0_5 a0_6 true _ A21.out).mono ?_); rintro e w30 ⟨rfl, hb⟩; have n0_ := Aside0.mk (blk_below (g := gb258) (o := .cells #[.int .i64 a0_0, .int .i64 a0_1, .int .i64 a0_2, .int .i64 a0_3, .bool a0_4, .int .i64 a0_5, .int .i64 a0_6, .int .i64 a0_7, .int .i64 a0_8, .int .i64 a0_9, .int .i64 a0_10, .int .i64 a0_11, .int .i64 a0_12, .int .i64 a0_13] 48 (0, 0)) (by (with_reducible repeat (first | refine blk_drewN ?_ _ | refine blk_drew ?_ | refine blk_alloc ?_ _)); exact BK258.out) hb); have n1_ := Aside0.mk (below_step (by repeat (first | (with_reducible first | exact HB.out | apply below_alloc | apply pw_below_drewN | apply below_drew1 | refine below_set ?_ GE258.out) | exact HB.out)) hb); clear BK258; clear HB; have BK258 := n0_; have HB := n1_; clear n0_ n1_; (try clear hb); (try clear hb2); (try clear hk); (try clear hi); have hcz31_0 : w30.cell? ⟨gb258, 0, none⟩ = some (.int .i64 a0_0) := (blk_cell BK258.out 0).trans rfl; have hcz31_1 : w30.cell? ⟨gb258, 1, none⟩ = some (.int .i64 a0_1) := (blk_cell BK258.out 1).trans rfl; have hcz31_2 : w30.cell? ⟨gb258, 2, none⟩ = some (.int .i64 a0_2) := (blk_cell BK258.out 2).trans rfl; have hcz31_3 : w30.cell? ⟨gb258, 3, none⟩ = some (.int .i64 a0_3) := (blk_cell BK258.out 3).trans rfl; have hcz31_4 : w30.cell? ⟨gb258, 4, none⟩ = some (.bool a0_4) := (blk_cell BK258.out 4).trans rfl; have hcz31_5 : w30.cell? ⟨gb258, 5, none⟩ = some (.int .i64 a0_5) := (blk_cell BK258.out 5).trans rfl; have hcz31_6 : w30.cell? ⟨gb258, 6, none⟩ = some (.int .i64 a0_6) := (blk_cell BK258.out 6).trans rfl; have hcz31_7 : w30.cell? ⟨gb258, 7, none⟩ = some (.int .i64 a0_7) := (blk_cell BK258.out 7).trans rfl; have hcz31_8 : w30.cell? ⟨gb258, 8, none⟩ = some (.int .i64 a0_8) := (blk_cell BK258.out 8).trans rfl; have hcz31_9 : w30.cell? ⟨gb258, 9, none⟩ = some (.int .i64 a0_9) := (blk_cell BK258.out 9).trans rfl; have hcz31_10 : w30.cell? ⟨gb258, 10, none⟩ = some (.int .i64 a0_10) := (blk_cell BK258.out 10).trans rfl; have hcz31_11 : w30.cell? ⟨gb258, 11, none⟩ = some (.int .i64 a0_11) := (blk_cell BK258.out 11).trans rfl; have hcz31_12 : w30.cell? ⟨gb258, 12, none⟩ = some (.int .i64 a0_12) := (blk_cell BK258.out 12).trans rfl; have hcz31_13 : w30.cell? ⟨gb258, 13, none⟩ = some (.int .i64 a0_13) := (blk_cell BK258.out 13).trans rfl; have hfz31_0 := blk_frozen BK258.out 0; have hfz31_1 := blk_frozen BK258.out 1; have hfz31_2 := blk_frozen BK258.out 2; have hfz31_3 := blk_frozen BK258.out 3; have hfz31_4 := blk_frozen BK258.out 4; have hfz31_5 := blk_frozen BK258.out 5; have hfz31_6 := blk_frozen BK258.out 6; have hfz31_7 := blk_frozen BK258.out 7; have hfz31_8 := blk_frozen BK258.out 8; have hfz31_9 := blk_frozen BK258.out 9; have hfz31_10 := blk_frozen BK258.out 10; have hfz31_11 := blk_frozen BK258.out 11; have hfz31_12 := blk_frozen BK258.out 12; have hfz31_13 := blk_frozen BK258.out 13) | (go_at_call 41; (with_reducible refine (spec_l1In.calls a0_7 0 a0_5 false _ A23.out).mono ?_); rintro e w' ⟨rfl, ⟨nd, rfl⟩⟩; (try first | exact ⟨rfl, _, World.drewN_drewN _ _ _⟩ | exact ⟨rfl, _, Eq.trans (World.drewN_drewN _ _ _) (congrArg (World.drewN _) (Nat.add_assoc _ _ _))⟩))))
              go_ret
              exact ⟨by first | rfl | (simp [errW_none, errW_some] <;> rfl) | (simp [*, errW_none, errW_some] <;> rfl), by repeat (first | (with_reducible first | exact HB.out | apply below_alloc | apply pw_below_drewN | apply below_drew1 | refine below_set ?_ GE258.out) | exact HB.out)⟩
          · replace c22 := Bool.eq_false_iff.mpr c22
            subst c22
            have H1 : (some false) = some r := by rw [if_neg (show ¬ (false = true) by decide)] at H; exact H
            clear H
            have H := H1
            clear H1
            obtain rfl := Option.some.inj H
            have hcz32_0 : wc.cell? ⟨gb258, 0, none⟩ = some (.int .i64 a0_0) := (blk_cell BK258.out 0).trans rfl
            have hcz32_1 : wc.cell? ⟨gb258, 1, none⟩ = some (.int .i64 a0_1) := (blk_cell BK258.out 1).trans rfl
            have hcz32_2 : wc.cell? ⟨gb258, 2, none⟩ = some (.int .i64 a0_2) := (blk_cell BK258.out 2).trans rfl
            have hcz32_3 : wc.cell? ⟨gb258, 3, none⟩ = some (.int .i64 a0_3) := (blk_cell BK258.out 3).trans rfl
            have hcz32_4 : wc.cell? ⟨gb258, 4, none⟩ = some (.bool a0_4) := (blk_cell BK258.out 4).trans rfl
            have hcz32_5 : wc.cell? ⟨gb258, 5, none⟩ = some (.int .i64 a0_5) := (blk_cell BK258.out 5).trans rfl
            have hcz32_6 : wc.cell? ⟨gb258, 6, none⟩ = some (.int .i64 a0_6) := (blk_cell BK258.out 6).trans rfl
            have hcz32_7 : wc.cell? ⟨gb258, 7, none⟩ = some (.int .i64 a0_7) := (blk_cell BK258.out 7).trans rfl
            have hcz32_8 : wc.cell? ⟨gb258, 8, none⟩ = some (.int .i64 a0_8) := (blk_cell BK258.out 8).trans rfl
            have hcz32_9 : wc.cell? ⟨gb258, 9, none⟩ = some (.int .i64 a0_9) := (blk_cell BK258.out 9).trans rfl
            have hcz32_10 : wc.cell? ⟨gb258, 10, none⟩ = some (.int .i64 a0_10) := (blk_cell BK258.out 10).trans rfl
            have hcz32_11 : wc.cell? ⟨gb258, 11, none⟩ = some (.int .i64 a0_11) := (blk_cell BK258.out 11).trans rfl
            have hcz32_12 : wc.cell? ⟨gb258, 12, none⟩ = some (.int .i64 a0_12) := (blk_cell BK258.out 12).trans rfl
            have hcz32_13 : wc.cell? ⟨gb258, 13, none⟩ = some (.int .i64 a0_13) := (blk_cell BK258.out 13).trans rfl
            have hfz32_0 := blk_frozen BK258.out 0
            have hfz32_1 := blk_frozen BK258.out 1
            have hfz32_2 := blk_frozen BK258.out 2
            have hfz32_3 := blk_frozen BK258.out 3
            have hfz32_4 := blk_frozen BK258.out 4
            have hfz32_5 := blk_frozen BK258.out 5
            have hfz32_6 := blk_frozen BK258.out 6
            have hfz32_7 := blk_frozen BK258.out 7
            have hfz32_8 := blk_frozen BK258.out 8
            have hfz32_9 := blk_frozen BK258.out 9
            have hfz32_10 := blk_frozen BK258.out 10
            have hfz32_11 := blk_frozen BK258.out 11
            have hfz32_12 := blk_frozen BK258.out 12
            have hfz32_13 := blk_frozen BK258.out 13
            go_wp2_with (first | (go_at_call 17; (with_reducible refine (spec_ShareOk.calls a0_5 a0_6 false _ A21.out).mono ?_); rintro e w33 ⟨rfl, hb⟩; have n0_ := Aside0.mk (blk_below (g := gb258) (o := .cells #[.int .i64 a0_0, .int .i64 a0_1, .int .i64 a0_2, .int .i64 a0_3, .bool a0_4, .int .i64 a0_5, .int .i64 a0_6, .int .i64 a0_7, .int .i64 a0_8, .int .i64 a0_9, .int .i64 a0_10, .int .i64 a0_11, .int .i64 a0_12, .int .i64 a0_13] 48 (0, 0)) (by (with_reducible repeat (first | refine blk_drewN ?_ _ | refine blk_drew ?_ | refine blk_alloc ?_ _)); exact BK258.out) hb); have n1_ := Aside0.mk (below_step (by repeat (first | (with_reducible first | exact HB.out | apply below_alloc | apply pw_below_drewN | apply below_drew1 | refine below_set ?_ GE258.out) | exact HB.out)) hb); clear BK258; clear HB; have BK258 := n0_; have HB := n1_; clear n0_ n1_; (try clear hb); (try clear hb2); (try clear hk); (try clear hi)))
            repeat (go_quiet (first | (go_at_call 17; (with_reducible refine (spec_ShareOk.calls a0_5 a0_6 false _ A21.out).mono ?_); rintro e w33 ⟨rfl, hb⟩; have n0_ := Aside0.mk (blk_below (g := gb258) (o := .cells #[.int .i64 a0_0, .int .i64 a0_1, .int .i64 a0_2, .int .i64 a0_3, .bool a0_4, .int .i64 a0_5, .int .i64 a0_6, .int .i64 a0_7, .int .i64 a0_8, .int .i64 a0_9, .int .i64 a0_10, .int .i64 a0_11, .int .i64 a0_12, .int .i64 a0_13] 48 (0, 0)) (by (with_reducible repeat (first | refine blk_drewN ?_ _ | refine blk_drew ?_ | refine blk_alloc ?_ _)); exact BK258.out) hb); have n1_ := Aside0.mk (below_step (by repeat (first | (with_reducible first | exact HB.out | apply below_alloc | apply pw_below_drewN | apply below_drew1 | refine below_set ?_ GE258.out) | exact HB.out)) hb); clear BK258; clear HB; have BK258 := n0_; have HB := n1_; clear n0_ n1_; (try clear hb); (try clear hb2); (try clear hk); (try clear hi))); try go_wp2_with (first | (go_at_call 17; (with_reducible refine (spec_ShareOk.calls a0_5 a0_6 false _ A21.out).mono ?_); rintro e w33 ⟨rfl, hb⟩; have n0_ := Aside0.mk (blk_below (g := gb258) (o := .cells #[.int .i64 a0_0, .int .i64 a0_1, .int .i64 a0_2, .int .i64 a0_3, .bool a0_4, .int .i64 a0_5, .int .i64 a0_6, .int .i64 a0_7, .int .i64 a0_8, .int .i64 a0_9, .int .i64 a0_10, .int .i64 a0_11, .int .i64 a0_12, .int .i64 a0_13] 48 (0, 0)) (by (with_reducible repeat (first | refine blk_drewN ?_ _ | refine blk_drew ?_ | refine blk_alloc ?_ _)); exact BK258.out) hb); have n1_ := Aside0.mk (below_step (by repeat (first | (with_reducible first | exact HB.out | apply below_alloc | apply pw_below_drewN | apply below_drew1 | refine below_set ?_ GE258.out) | exact HB.out)) hb); clear BK258; clear HB; have BK258 := n0_; have HB := n1_; clear n0_ n1_; (try clear hb); (try clear hb2); (try clear hk); (try clear hi))))
            go_ret
            exact ⟨by first | rfl | (simp [errW_none, errW_some] <;> rfl) | (simp [*, errW_none, errW_some] <;> rfl), by repeat (first | (with_reducible first | exact HB.out | apply below_alloc | apply pw_below_drewN | apply below_drew1 | refine below_set ?_ GE258.out) | exact HB.out)⟩
        · rw [if_neg c20] at H
          have c20b0 : (a0_1 == 1) = false := beq_eq_false_iff_ne.mpr c20
          have c20b1 : (a0_1 != 1) = true := bne_iff_ne.mpr c20
          by_cases c34 : a0_1 = 2
          · rw [if_pos c34] at H
            have c34b0 : (a0_1 == 2) = true := beq_iff_eq.mpr c34
            have c34b1 : (a0_1 != 2) = false := bne_eq_false_iff_eq.mpr c34
            clear c34
            replace H := Option.bind_eq_some_iff.mp H
            obtain ⟨t267, A350, H⟩ := H
            replace H : (if t267 = true then ((spec_l1In.f a0_10 0 10).bind fun t268 => (if t268 = true then ((spec_l1Min.f a0_10 1).bind fun t269 => ((spec_l1In.f a0_7 t269 a0_10).bind fun t270 => (if t270 = true then ((spec_l1In.f a0_11 0 1000000).bind fun t271 => (some t271)) else (some false)))) else (some false))) else (some false)) = some r := H
            have A35 := Aside0.mk A350
            clear A350
            by_cases c36 : t267 = true
            · subst c36
              have H1 : ((spec_l1In.f a0_10 0 10).bind fun t268 => (if t268 = true then ((spec_l1Min.f a0_10 1).bind fun t269 => ((spec_l1In.f a0_7 t269 a0_10).bind fun t270 => (if t270 = true then ((spec_l1In.f a0_11 0 1000000).bind fun t271 => (some t271)) else (some false)))) else (some false))) = some r := by rw [if_pos rfl] at H; exact H
              clear H
              have H := H1
              clear H1
              replace H := Option.bind_eq_some_iff.mp H
              obtain ⟨t268, A370, H⟩ := H
              replace H : (if t268 = true then ((spec_l1Min.f a0_10 1).bind fun t269 => ((spec_l1In.f a0_7 t269 a0_10).bind fun t270 => (if t270 = true then ((spec_l1In.f a0_11 0 1000000).bind fun t271 => (some t271)) else (some false)))) else (some false)) = some r := H
              have A37 := Aside0.mk A370
              clear A370
              by_cases c38 : t268 = true
              · subst c38
                have H1 : ((spec_l1Min.f a0_10 1).bind fun t269 => ((spec_l1In.f a0_7 t269 a0_10).bind fun t270 => (if t270 = true then ((spec_l1In.f a0_11 0 1000000).bind fun t271 => (some t271)) else (some false)))) = some r := by rw [if_pos rfl] at H; exact H
                clear H
                have H := H1
                clear H1
                replace H := Option.bind_eq_some_iff.mp H
                obtain ⟨t269, A390, H⟩ := H
                replace H : ((spec_l1In.f a0_7 t269 a0_10).bind fun t270 => (if t270 = true then ((spec_l1In.f a0_11 0 1000000).bind fun t271 => (some t271)) else (some false))) = some r := H
                have A39 := Aside0.mk A390
                clear A390
                replace H := Option.bind_eq_some_iff.mp H
                obtain ⟨t270, A400, H⟩ := H
                replace H : (if t270 = true then ((spec_l1In.f a0_11 0 1000000).bind fun t271 => (some t271)) else (some false)) = some r := H
                have A40 := Aside0.mk A400
                clear A400
                by_cases c41 : t270 = true
                · subst c41
                  have H1 : ((spec_l1In.f a0_11 0 1000000).bind fun t271 => (some t271)) = some r := by rw [if_pos rfl] at H; exact H
                  clear H
                  have H := H1
                  clear H1
                  replace H := Option.bind_eq_some_iff.mp H
                  obtain ⟨t271, A420, H⟩ := H
                  replace H : (some t271) = some r := H
                  have A42 := Aside0.mk A420
                  clear A420
                  obtain rfl := Option.some.inj H
                  have hcz43_0 : wc.cell? ⟨gb258, 0, none⟩ = some (.int .i64 a0_0) := (blk_cell BK258.out 0).trans rfl
                  have hcz43_1 : wc.cell? ⟨gb258, 1, none⟩ = some (.int .i64 a0_1) := (blk_cell BK258.out 1).trans rfl
                  have hcz43_2 : wc.cell? ⟨gb258, 2, none⟩ = some (.int .i64 a0_2) := (blk_cell BK258.out 2).trans rfl
                  have hcz43_3 : wc.cell? ⟨gb258, 3, none⟩ = some (.int .i64 a0_3) := (blk_cell BK258.out 3).trans rfl
                  have hcz43_4 : wc.cell? ⟨gb258, 4, none⟩ = some (.bool a0_4) := (blk_cell BK258.out 4).trans rfl
                  have hcz43_5 : wc.cell? ⟨gb258, 5, none⟩ = some (.int .i64 a0_5) := (blk_cell BK258.out 5).trans rfl
                  have hcz43_6 : wc.cell? ⟨gb258, 6, none⟩ = some (.int .i64 a0_6) := (blk_cell BK258.out 6).trans rfl
                  have hcz43_7 : wc.cell? ⟨gb258, 7, none⟩ = some (.int .i64 a0_7) := (blk_cell BK258.out 7).trans rfl
                  have hcz43_8 : wc.cell? ⟨gb258, 8, none⟩ = some (.int .i64 a0_8) := (blk_cell BK258.out 8).trans rfl
                  have hcz43_9 : wc.cell? ⟨gb258, 9, none⟩ = some (.int .i64 a0_9) := (blk_cell BK258.out 9).trans rfl
                  have hcz43_10 : wc.cell? ⟨gb258, 10, none⟩ = some (.int .i64 a0_10) := (blk_cell BK258.out 10).trans rfl
                  have hcz43_11 : wc.cell? ⟨gb258, 11, none⟩ = some (.int .i64 a0_11) := (blk_cell BK258.out 11).trans rfl
                  have hcz43_12 : wc.cell? ⟨gb258, 12, none⟩ = some (.int .i64 a0_12) := (blk_cell BK258.out 12).trans rfl
                  have hcz43_13 : wc.cell? ⟨gb258, 13, none⟩ = some (.int .i64 a0_13) := (blk_cell BK258.out 13).trans rfl
                  have hfz43_0 := blk_frozen BK258.out 0
                  have hfz43_1 := blk_frozen BK258.out 1
                  have hfz43_2 := blk_frozen BK258.out 2
                  have hfz43_3 := blk_frozen BK258.out 3
                  have hfz43_4 := blk_frozen BK258.out 4
                  have hfz43_5 := blk_frozen BK258.out 5
                  have hfz43_6 := blk_frozen BK258.out 6
                  have hfz43_7 := blk_frozen BK258.out 7
                  have hfz43_8 := blk_frozen BK258.out 8
                  have hfz43_9 := blk_frozen BK258.out 9
                  have hfz43_10 := blk_frozen BK258.out 10
                  have hfz43_11 := blk_frozen BK258.out 11
                  have hfz43_12 := blk_frozen BK258.out 12
                  have hfz43_13 := blk_frozen BK258.out 13
                  go_wp2_with (first | (go_at_call 41; (with_reducible refine (spec_l1In.calls a0_9 1 20 true _ A35.out).mono ?_); rintro e w' ⟨rfl, ⟨nd, rfl⟩⟩; (try first | exact ⟨rfl, _, World.drewN_drewN _ _ _⟩ | exact ⟨rfl, _, Eq.trans (World.drewN_drewN _ _ _) (congrArg (World.drewN _) (Nat.add_assoc _ _ _))⟩)) | (go_at_call 41; (with_reducible refine (spec_l1In.calls a0_10 0 10 true _ A37.out).mono ?_); rintro e w' ⟨rfl, ⟨nd, rfl⟩⟩; (try first | exact ⟨rfl, _, World.drewN_drewN _ _ _⟩ | exact ⟨rfl, _, Eq.trans (World.drewN_drewN _ _ _) (congrArg (World.drewN _) (Nat.add_assoc _ _ _))⟩)) | (go_at_call 50; (with_reducible refine (spec_l1Min.calls a0_10 1 t269 _ A39.out).mono ?_); rintro e w' ⟨rfl, ⟨nd, rfl⟩⟩; (try first | exact ⟨rfl, _, World.drewN_drewN _ _ _⟩ | exact ⟨rfl, _, Eq.trans (World.drewN_drewN _ _ _) (congrArg (World.drewN _) (Nat.add_assoc _ _ _))⟩)) | (go_at_call 41; (with_reducible refine (spec_l1In.calls a0_7 t269 a0_10 true _ A40.out).mono ?_); rintro e w' ⟨rfl, ⟨nd, rfl⟩⟩; (try first | exact ⟨rfl, _, World.drewN_drewN _ _ _⟩ | exact ⟨rfl, _, Eq.trans (World.drewN_drewN _ _ _) (congrArg (World.drewN _) (Nat.add_assoc _ _ _))⟩)) | (go_at_call 41; (with_reducible refine (spec_l1In.calls a0_11 0 1000000 t271 _ A42.out).mono ?_); rintro e w' ⟨rfl, ⟨nd, rfl⟩⟩; (try first | exact ⟨rfl, _, World.drewN_drewN _ _ _⟩ | exact ⟨rfl, _, Eq.trans (World.drewN_drewN _ _ _) (congrArg (World.drewN _) (Nat.add_assoc _ _ _))⟩)))
                  repeat (go_quiet (first | (go_at_call 41; (with_reducible refine (spec_l1In.calls a0_9 1 20 true _ A35.out).mono ?_); rintro e w' ⟨rfl, ⟨nd, rfl⟩⟩; (try first | exact ⟨rfl, _, World.drewN_drewN _ _ _⟩ | exact ⟨rfl, _, Eq.trans (World.drewN_drewN _ _ _) (congrArg (World.drewN _) (Nat.add_assoc _ _ _))⟩)) | (go_at_call 41; (with_reducible refine (spec_l1In.calls a0_10 0 10 true _ A37.out).mono ?_); rintro e w' ⟨rfl, ⟨nd, rfl⟩⟩; (try first | exact ⟨rfl, _, World.drewN_drewN _ _ _⟩ | exact ⟨rfl, _, Eq.trans (World.drewN_drewN _ _ _) (congrArg (World.drewN _) (Nat.add_assoc _ _ _))⟩)) | (go_at_call 50; (with_reducible refine (spec_l1Min.calls a0_10 1 t269 _ A39.out).mono ?_); rintro e w' ⟨rfl, ⟨nd, rfl⟩⟩; (try first | exact ⟨rfl, _, World.drewN_drewN _ _ _⟩ | exact ⟨rfl, _, Eq.trans (World.drewN_drewN _ _ _) (congrArg (World.drewN _) (Nat.add_assoc _ _ _))⟩)) | (go_at_call 41; (with_reducible refine (spec_l1In.calls a0_7 t269 a0_10 true _ A40.out).mono ?_); rintro e w' ⟨rfl, ⟨nd, rfl⟩⟩; (try first | exact ⟨rfl, _, World.drewN_drewN _ _ _⟩ | exact ⟨rfl, _, Eq.trans (World.drewN_drewN _ _ _) (congrArg (World.drewN _) (Nat.add_assoc _ _ _))⟩)) | (go_at_call 41; (with_reducible refine (spec_l1In.calls a0_11 0 1000000 t271 _ A42.out).mono ?_); rintro e w' ⟨rfl, ⟨nd, rfl⟩⟩; (try first | exact ⟨rfl, _, World.drewN_drewN _ _ _⟩ | exact ⟨rfl, _, Eq.trans (World.drewN_drewN _ _ _) (congrArg (World.drewN _) (Nat.add_assoc _ _ _))⟩))); try go_wp2_with (first | (go_at_call 41; (with_reducible refine (spec_l1In.calls a0_9 1 20 true _ A35.out).mono ?_); rintro e w' ⟨rfl, ⟨nd, rfl⟩⟩; (try first | exact ⟨rfl, _, World.drewN_drewN _ _ _⟩ | exact ⟨rfl, _, Eq.trans (World.drewN_drewN _ _ _) (congrArg (World.drewN _) (Nat.add_assoc _ _ _))⟩)) | (go_at_call 41; (with_reducible refine (spec_l1In.calls a0_10 0 10 true _ A37.out).mono ?_); rintro e w' ⟨rfl, ⟨nd, rfl⟩⟩; (try first | exact ⟨rfl, _, World.drewN_drewN _ _ _⟩ | exact ⟨rfl, _, Eq.trans (World.drewN_drewN _ _ _) (congrArg (World.drewN _) (Nat.add_assoc _ _ _))⟩)) | (go_at_call 50; (with_reducible refine (spec_l1Min.calls a0_10 1 t269 _ A39.out).mono ?_); rintro e w' ⟨rfl, ⟨nd, rfl⟩⟩; (try first | exact ⟨rfl, _, World.drewN_drewN _ _ _⟩ | exact ⟨rfl, _, Eq.trans (World.drewN_drewN _ _ _) (congrArg (World.drewN _) (Nat.add_assoc _ _ _))⟩)) | (go_at_call 41; (with_reducible refine (spec_l1In.calls a0_7 t269 a0_10 true _ A40.out).mono ?_); rintro e w' ⟨rfl, ⟨nd, rfl⟩⟩; (try first | exact ⟨rfl, _, World.drewN_drewN _ _ _⟩ | exact ⟨rfl, _, Eq.trans (World.drewN_drewN _ _ _) (congrArg (World.drewN _) (Nat.add_assoc _ _ _))⟩)) | (go_at_call 41; (with_reducible refine (spec_l1In.calls a0_11 0 1000000 t271 _ A42.out).mono ?_); rintro e w' ⟨rfl, ⟨nd, rfl⟩⟩; (try first | exact ⟨rfl, _, World.drewN_drewN _ _ _⟩ | exact ⟨rfl, _, Eq.trans (World.drewN_drewN _ _ _) (congrArg (World.drewN _) (Nat.add_assoc _ _ _))⟩))))
                  go_ret
                  exact ⟨by first | rfl | (simp [errW_none, errW_some] <;> rfl) | (simp [*, errW_none, errW_some] <;> rfl), by repeat (first | (with_reducible first | exact HB.out | apply below_alloc | apply pw_below_drewN | apply below_drew1 | refine below_set ?_ GE258.out) | exact HB.out)⟩
                · replace c41 := Bool.eq_false_iff.mpr c41
                  subst c41
                  have H1 : (some false) = some r := by rw [if_neg (show ¬ (false = true) by decide)] at H; exact H
                  clear H
                  have H := H1
                  clear H1
                  obtain rfl := Option.some.inj H
                  have hcz44_0 : wc.cell? ⟨gb258, 0, none⟩ = some (.int .i64 a0_0) := (blk_cell BK258.out 0).trans rfl
                  have hcz44_1 : wc.cell? ⟨gb258, 1, none⟩ = some (.int .i64 a0_1) := (blk_cell BK258.out 1).trans rfl
                  have hcz44_2 : wc.cell? ⟨gb258, 2, none⟩ = some (.int .i64 a0_2) := (blk_cell BK258.out 2).trans rfl
                  have hcz44_3 : wc.cell? ⟨gb258, 3, none⟩ = some (.int .i64 a0_3) := (blk_cell BK258.out 3).trans rfl
                  have hcz44_4 : wc.cell? ⟨gb258, 4, none⟩ = some (.bool a0_4) := (blk_cell BK258.out 4).trans rfl
                  have hcz44_5 : wc.cell? ⟨gb258, 5, none⟩ = some (.int .i64 a0_5) := (blk_cell BK258.out 5).trans rfl
                  have hcz44_6 : wc.cell? ⟨gb258, 6, none⟩ = some (.int .i64 a0_6) := (blk_cell BK258.out 6).trans rfl
                  have hcz44_7 : wc.cell? ⟨gb258, 7, none⟩ = some (.int .i64 a0_7) := (blk_cell BK258.out 7).trans rfl
                  have hcz44_8 : wc.cell? ⟨gb258, 8, none⟩ = some (.int .i64 a0_8) := (blk_cell BK258.out 8).trans rfl
                  have hcz44_9 : wc.cell? ⟨gb258, 9, none⟩ = some (.int .i64 a0_9) := (blk_cell BK258.out 9).trans rfl
                  have hcz44_10 : wc.cell? ⟨gb258, 10, none⟩ = some (.int .i64 a0_10) := (blk_cell BK258.out 10).trans rfl
                  have hcz44_11 : wc.cell? ⟨gb258, 11, none⟩ = some (.int .i64 a0_11) := (blk_cell BK258.out 11).trans rfl
                  have hcz44_12 : wc.cell? ⟨gb258, 12, none⟩ = some (.int .i64 a0_12) := (blk_cell BK258.out 12).trans rfl
                  have hcz44_13 : wc.cell? ⟨gb258, 13, none⟩ = some (.int .i64 a0_13) := (blk_cell BK258.out 13).trans rfl
                  have hfz44_0 := blk_frozen BK258.out 0
                  have hfz44_1 := blk_frozen BK258.out 1
                  have hfz44_2 := blk_frozen BK258.out 2
                  have hfz44_3 := blk_frozen BK258.out 3
                  have hfz44_4 := blk_frozen BK258.out 4
                  have hfz44_5 := blk_frozen BK258.out 5
                  have hfz44_6 := blk_frozen BK258.out 6
                  have hfz44_7 := blk_frozen BK258.out 7
                  have hfz44_8 := blk_frozen BK258.out 8
                  have hfz44_9 := blk_frozen BK258.out 9
                  have hfz44_10 := blk_frozen BK258.out 10
                  have hfz44_11 := blk_frozen BK258.out 11
                  have hfz44_12 := blk_frozen BK258.out 12
                  have hfz44_13 := blk_frozen BK258.out 13
                  go_wp2_with (first | (go_at_call 41; (with_reducible refine (spec_l1In.calls a0_9 1 20 true _ A35.out).mono ?_); rintro e w' ⟨rfl, ⟨nd, rfl⟩⟩; (try first | exact ⟨rfl, _, World.drewN_drewN _ _ _⟩ | exact ⟨rfl, _, Eq.trans (World.drewN_drewN _ _ _) (congrArg (World.drewN _) (Nat.add_assoc _ _ _))⟩)) | (go_at_call 41; (with_reducible refine (spec_l1In.calls a0_10 0 10 true _ A37.out).mono ?_); rintro e w' ⟨rfl, ⟨nd, rfl⟩⟩; (try first | exact ⟨rfl, _, World.drewN_drewN _ _ _⟩ | exact ⟨rfl, _, Eq.trans (World.drewN_drewN _ _ _) (congrArg (World.drewN _) (Nat.add_assoc _ _ _))⟩)) | (go_at_call 50; (with_reducible refine (spec_l1Min.calls a0_10 1 t269 _ A39.out).mono ?_); rintro e w' ⟨rfl, ⟨nd, rfl⟩⟩; (try first | exact ⟨rfl, _, World.drewN_drewN _ _ _⟩ | exact ⟨rfl, _, Eq.trans (World.drewN_drewN _ _ _) (congrArg (World.drewN _) (Nat.add_assoc _ _ _))⟩)) | (go_at_call 41; (with_reducible refine (spec_l1In.calls a0_7 t269 a0_10 false _ A40.out).mono ?_); rintro e w' ⟨rfl, ⟨nd, rfl⟩⟩; (try first | exact ⟨rfl, _, World.drewN_drewN _ _ _⟩ | exact ⟨rfl, _, Eq.trans (World.drewN_drewN _ _ _) (congrArg (World.drewN _) (Nat.add_assoc _ _ _))⟩)))
                  repeat (go_quiet (first | (go_at_call 41; (with_reducible refine (spec_l1In.calls a0_9 1 20 true _ A35.out).mono ?_); rintro e w' ⟨rfl, ⟨nd, rfl⟩⟩; (try first | exact ⟨rfl, _, World.drewN_drewN _ _ _⟩ | exact ⟨rfl, _, Eq.trans (World.drewN_drewN _ _ _) (congrArg (World.drewN _) (Nat.add_assoc _ _ _))⟩)) | (go_at_call 41; (with_reducible refine (spec_l1In.calls a0_10 0 10 true _ A37.out).mono ?_); rintro e w' ⟨rfl, ⟨nd, rfl⟩⟩; (try first | exact ⟨rfl, _, World.drewN_drewN _ _ _⟩ | exact ⟨rfl, _, Eq.trans (World.drewN_drewN _ _ _) (congrArg (World.drewN _) (Nat.add_assoc _ _ _))⟩)) | (go_at_call 50; (with_reducible refine (spec_l1Min.calls a0_10 1 t269 _ A39.out).mono ?_); rintro e w' ⟨rfl, ⟨nd, rfl⟩⟩; (try first | exact ⟨rfl, _, World.drewN_drewN _ _ _⟩ | exact ⟨rfl, _, Eq.trans (World.drewN_drewN _ _ _) (congrArg (World.drewN _) (Nat.add_assoc _ _ _))⟩)) | (go_at_call 41; (with_reducible refine (spec_l1In.calls a0_7 t269 a0_10 false _ A40.out).mono ?_); rintro e w' ⟨rfl, ⟨nd, rfl⟩⟩; (try first | exact ⟨rfl, _, World.drewN_drewN _ _ _⟩ | exact ⟨rfl, _, Eq.trans (World.drewN_drewN _ _ _) (congrArg (World.drewN _) (Nat.add_assoc _ _ _))⟩))); try go_wp2_with (first | (go_at_call 41; (with_reducible refine (spec_l1In.calls a0_9 1 20 true _ A35.out).mono ?_); rintro e w' ⟨rfl, ⟨nd, rfl⟩⟩; (try first | exact ⟨rfl, _, World.drewN_drewN _ _ _⟩ | exact ⟨rfl, _, Eq.trans (World.drewN_drewN _ _ _) (congrArg (World.drewN _) (Nat.add_assoc _ _ _))⟩)) | (go_at_call 41; (with_reducible refine (spec_l1In.calls a0_10 0 10 true _ A37.out).mono ?_); rintro e w' ⟨rfl, ⟨nd, rfl⟩⟩; (try first | exact ⟨rfl, _, World.drewN_drewN _ _ _⟩ | exact ⟨rfl, _, Eq.trans (World.drewN_drewN _ _ _) (congrArg (World.drewN _) (Nat.add_assoc _ _ _))⟩)) | (go_at_call 50; (with_reducible refine (spec_l1Min.calls a0_10 1 t269 _ A39.out).mono ?_); rintro e w' ⟨rfl, ⟨nd, rfl⟩⟩; (try first | exact ⟨rfl, _, World.drewN_drewN _ _ _⟩ | exact ⟨rfl, _, Eq.trans (World.drewN_drewN _ _ _) (congrArg (World.drewN _) (Nat.add_assoc _ _ _))⟩)) | (go_at_call 41; (with_reducible refine (spec_l1In.calls a0_7 t269 a0_10 false _ A40.out).mono ?_); rintro e w' ⟨rfl, ⟨nd, rfl⟩⟩; (try first | exact ⟨rfl, _, World.drewN_drewN _ _ _⟩ | exact ⟨rfl, _, Eq.trans (World.drewN_drewN _ _ _) (congrArg (World.drewN _) (Nat.add_assoc _ _ _))⟩))))
                  go_ret
                  exact ⟨by first | rfl | (simp [errW_none, errW_some] <;> rfl) | (simp [*, errW_none, errW_some] <;> rfl), by repeat (first | (with_reducible first | exact HB.out | apply below_alloc | apply pw_below_drewN | apply below_drew1 | refine below_set ?_ GE258.out) | exact HB.out)⟩
              · replace c38 := Bool.eq_false_iff.mpr c38
                subst c38
                have H1 : (some false) = some r := by rw [if_neg (show ¬ (false = true) by decide)] at H; exact H
                clear H
                have H := H1
                clear H1
                obtain rfl := Option.some.inj H
                have hcz45_0 : wc.cell? ⟨gb258, 0, none⟩ = some (.int .i64 a0_0) := (blk_cell BK258.out 0).trans rfl
                have hcz45_1 : wc.cell? ⟨gb258, 1, none⟩ = some (.int .i64 a0_1) := (blk_cell BK258.out 1).trans rfl
                have hcz45_2 : wc.cell? ⟨gb258, 2, none⟩ = some (.int .i64 a0_2) := (blk_cell BK258.out 2).trans rfl
                have hcz45_3 : wc.cell? ⟨gb258, 3, none⟩ = some (.int .i64 a0_3) := (blk_cell BK258.out 3).trans rfl
                have hcz45_4 : wc.cell? ⟨gb258, 4, none⟩ = some (.bool a0_4) := (blk_cell BK258.out 4).trans rfl
                have hcz45_5 : wc.cell? ⟨gb258, 5, none⟩ = some (.int .i64 a0_5) := (blk_cell BK258.out 5).trans rfl
                have hcz45_6 : wc.cell? ⟨gb258, 6, none⟩ = some (.int .i64 a0_6) := (blk_cell BK258.out 6).trans rfl
                have hcz45_7 : wc.cell? ⟨gb258, 7, none⟩ = some (.int .i64 a0_7) := (blk_cell BK258.out 7).trans rfl
                have hcz45_8 : wc.cell? ⟨gb258, 8, none⟩ = some (.int .i64 a0_8) := (blk_cell BK258.out 8).trans rfl
                have hcz45_9 : wc.cell? ⟨gb258, 9, none⟩ = some (.int .i64 a0_9) := (blk_cell BK258.out 9).trans rfl
                have hcz45_10 : wc.cell? ⟨gb258, 10, none⟩ = some (.int .i64 a0_10) := (blk_cell BK258.out 10).trans rfl
                have hcz45_11 : wc.cell? ⟨gb258, 11, none⟩ = some (.int .i64 a0_11) := (blk_cell BK258.out 11).trans rfl
                have hcz45_12 : wc.cell? ⟨gb258, 12, none⟩ = some (.int .i64 a0_12) := (blk_cell BK258.out 12).trans rfl
                have hcz45_13 : wc.cell? ⟨gb258, 13, none⟩ = some (.int .i64 a0_13) := (blk_cell BK258.out 13).trans rfl
                have hfz45_0 := blk_frozen BK258.out 0
                have hfz45_1 := blk_frozen BK258.out 1
                have hfz45_2 := blk_frozen BK258.out 2
                have hfz45_3 := blk_frozen BK258.out 3
                have hfz45_4 := blk_frozen BK258.out 4
                have hfz45_5 := blk_frozen BK258.out 5
                have hfz45_6 := blk_frozen BK258.out 6
                have hfz45_7 := blk_frozen BK258.out 7
                have hfz45_8 := blk_frozen BK258.out 8
                have hfz45_9 := blk_frozen BK258.out 9
                have hfz45_10 := blk_frozen BK258.out 10
                have hfz45_11 := blk_frozen BK258.out 11
                have hfz45_12 := blk_frozen BK258.out 12
                have hfz45_13 := blk_frozen BK258.out 13
                go_wp2_with (first | (go_at_call 41; (with_reducible refine (spec_l1In.calls a0_9 1 20 true _ A35.out).mono ?_); rintro e w' ⟨rfl, ⟨nd, rfl⟩⟩; (try first | exact ⟨rfl, _, World.drewN_drewN _ _ _⟩ | exact ⟨rfl, _, Eq.trans (World.drewN_drewN _ _ _) (congrArg (World.drewN _) (Nat.add_assoc _ _ _))⟩)) | (go_at_call 41; (with_reducible refine (spec_l1In.calls a0_10 0 10 false _ A37.out).mono ?_); rintro e w' ⟨rfl, ⟨nd, rfl⟩⟩; (try first | exact ⟨rfl, _, World.drewN_drewN _ _ _⟩ | exact ⟨rfl, _, Eq.trans (World.drewN_drewN _ _ _) (congrArg (World.drewN _) (Nat.add_assoc _ _ _))⟩)))
                repeat (go_quiet (first | (go_at_call 41; (with_reducible refine (spec_l1In.calls a0_9 1 20 true _ A35.out).mono ?_); rintro e w' ⟨rfl, ⟨nd, rfl⟩⟩; (try first | exact ⟨rfl, _, World.drewN_drewN _ _ _⟩ | exact ⟨rfl, _, Eq.trans (World.drewN_drewN _ _ _) (congrArg (World.drewN _) (Nat.add_assoc _ _ _))⟩)) | (go_at_call 41; (with_reducible refine (spec_l1In.calls a0_10 0 10 false _ A37.out).mono ?_); rintro e w' ⟨rfl, ⟨nd, rfl⟩⟩; (try first | exact ⟨rfl, _, World.drewN_drewN _ _ _⟩ | exact ⟨rfl, _, Eq.trans (World.drewN_drewN _ _ _) (congrArg (World.drewN _) (Nat.add_assoc _ _ _))⟩))); try go_wp2_with (first | (go_at_call 41; (with_reducible refine (spec_l1In.calls a0_9 1 20 true _ A35.out).mono ?_); rintro e w' ⟨rfl, ⟨nd, rfl⟩⟩; (try first | exact ⟨rfl, _, World.drewN_drewN _ _ _⟩ | exact ⟨rfl, _, Eq.trans (World.drewN_drewN _ _ _) (congrArg (World.drewN _) (Nat.add_assoc _ _ _))⟩)) | (go_at_call 41; (with_reducible refine (spec_l1In.calls a0_10 0 10 false _ A37.out).mono ?_); rintro e w' ⟨rfl, ⟨nd, rfl⟩⟩; (try first | exact ⟨rfl, _, World.drewN_drewN _ _ _⟩ | exact ⟨rfl, _, Eq.trans (World.drewN_drewN _ _ _) (congrArg (World.drewN _) (Nat.add_assoc _ _ _))⟩))))
                go_ret
                exact ⟨by first | rfl | (simp [errW_none, errW_some] <;> rfl) | (simp [*, errW_none, errW_some] <;> rfl), by repeat (first | (with_reducible first | exact HB.out | apply below_alloc | apply pw_below_drewN | apply below_drew1 | refine below_set ?_ GE258.out) | exact HB.out)⟩
            · replace c36 := Bool.eq_false_iff.mpr c36
              subst c36
              have H1 : (some false) = some r := by rw [if_neg (show ¬ (false = true) by decide)] at H; exact H
              clear H
              have H := H1
              clear H1
              obtain rfl := Option.some.inj H
              have hcz46_0 : wc.cell? ⟨gb258, 0, none⟩ = some (.int .i64 a0_0) := (blk_cell BK258.out 0).trans rfl
              have hcz46_1 : wc.cell? ⟨gb258, 1, none⟩ = some (.int .i64 a0_1) := (blk_cell BK258.out 1).trans rfl
              have hcz46_2 : wc.cell? ⟨gb258, 2, none⟩ = some (.int .i64 a0_2) := (blk_cell BK258.out 2).trans rfl
              have hcz46_3 : wc.cell? ⟨gb258, 3, none⟩ = some (.int .i64 a0_3) := (blk_cell BK258.out 3).trans rfl
              have hcz46_4 : wc.cell? ⟨gb258, 4, none⟩ = some (.bool a0_4) := (blk_cell BK258.out 4).trans rfl
              have hcz46_5 : wc.cell? ⟨gb258, 5, none⟩ = some (.int .i64 a0_5) := (blk_cell BK258.out 5).trans rfl
              have hcz46_6 : wc.cell? ⟨gb258, 6, none⟩ = some (.int .i64 a0_6) := (blk_cell BK258.out 6).trans rfl
              have hcz46_7 : wc.cell? ⟨gb258, 7, none⟩ = some (.int .i64 a0_7) := (blk_cell BK258.out 7).trans rfl
              have hcz46_8 : wc.cell? ⟨gb258, 8, none⟩ = some (.int .i64 a0_8) := (blk_cell BK258.out 8).trans rfl
              have hcz46_9 : wc.cell? ⟨gb258, 9, none⟩ = some (.int .i64 a0_9) := (blk_cell BK258.out 9).trans rfl
              have hcz46_10 : wc.cell? ⟨gb258, 10, none⟩ = some (.int .i64 a0_10) := (blk_cell BK258.out 10).trans rfl
              have hcz46_11 : wc.cell? ⟨gb258, 11, none⟩ = some (.int .i64 a0_11) := (blk_cell BK258.out 11).trans rfl
              have hcz46_12 : wc.cell? ⟨gb258, 12, none⟩ = some (.int .i64 a0_12) := (blk_cell BK258.out 12).trans rfl
              have hcz46_13 : wc.cell? ⟨gb258, 13, none⟩ = some (.int .i64 a0_13) := (blk_cell BK258.out 13).trans rfl
              have hfz46_0 := blk_frozen BK258.out 0
              have hfz46_1 := blk_frozen BK258.out 1
              have hfz46_2 := blk_frozen BK258.out 2
              have hfz46_3 := blk_frozen BK258.out 3
              have hfz46_4 := blk_frozen BK258.out 4
              have hfz46_5 := blk_frozen BK258.out 5
              have hfz46_6 := blk_frozen BK258.out 6
              have hfz46_7 := blk_frozen BK258.out 7
              have hfz46_8 := blk_frozen BK258.out 8
              have hfz46_9 := blk_frozen BK258.out 9
              have hfz46_10 := blk_frozen BK258.out 10
              have hfz46_11 := blk_frozen BK258.out 11
              have hfz46_12 := blk_frozen BK258.out 12
              have hfz46_13 := blk_frozen BK258.out 13
              go_wp2_with (first | (go_at_call 41; (with_reducible refine (spec_l1In.calls a0_9 1 20 false _ A35.out).mono ?_); rintro e w' ⟨rfl, ⟨nd, rfl⟩⟩; (try first | exact ⟨rfl, _, World.drewN_drewN _ _ _⟩ | exact ⟨rfl, _, Eq.trans (World.drewN_drewN _ _ _) (congrArg (World.drewN _) (Nat.add_assoc _ _ _))⟩)))
              repeat (go_quiet (first | (go_at_call 41; (with_reducible refine (spec_l1In.calls a0_9 1 20 false _ A35.out).mono ?_); rintro e w' ⟨rfl, ⟨nd, rfl⟩⟩; (try first | exact ⟨rfl, _, World.drewN_drewN _ _ _⟩ | exact ⟨rfl, _, Eq.trans (World.drewN_drewN _ _ _) (congrArg (World.drewN _) (Nat.add_assoc _ _ _))⟩))); try go_wp2_with (first | (go_at_call 41; (with_reducible refine (spec_l1In.calls a0_9 1 20 false _ A35.out).mono ?_); rintro e w' ⟨rfl, ⟨nd, rfl⟩⟩; (try first | exact ⟨rfl, _, World.drewN_drewN _ _ _⟩ | exact ⟨rfl, _, Eq.trans (World.drewN_drewN _ _ _) (congrArg (World.drewN _) (Nat.add_assoc _ _ _))⟩))))
              go_ret
              exact ⟨by first | rfl | (simp [errW_none, errW_some] <;> rfl) | (simp [*, errW_none, errW_some] <;> rfl), by repeat (first | (with_reducible first | exact HB.out | apply below_alloc | apply pw_below_drewN | apply below_drew1 | refine below_set ?_ GE258.out) | exact HB.out)⟩
          · rw [if_neg c34] at H
            have c34b0 : (a0_1 == 2) = false := beq_eq_false_iff_ne.mpr c34
            have c34b1 : (a0_1 != 2) = true := bne_iff_ne.mpr c34
            replace H := Option.bind_eq_some_iff.mp H
            obtain ⟨t272, A470, H⟩ := H
            replace H : (if t272 = true then ((spec_l1In.f a0_13 0 100000000).bind fun t273 => (some t273)) else (some false)) = some r := H
            have A47 := Aside0.mk A470
            clear A470
            by_cases c48 : t272 = true
            · subst c48
              have H1 : ((spec_l1In.f a0_13 0 100000000).bind fun t273 => (some t273)) = some r := by rw [if_pos rfl] at H; exact H
              clear H
              have H := H1
              clear H1
              replace H := Option.bind_eq_some_iff.mp H
              obtain ⟨t273, A490, H⟩ := H
              replace H : (some t273) = some r := H
              have A49 := Aside0.mk A490
              clear A490
              obtain rfl := Option.some.inj H
              have hcz50_0 : wc.cell? ⟨gb258, 0, none⟩ = some (.int .i64 a0_0) := (blk_cell BK258.out 0).trans rfl
              have hcz50_1 : wc.cell? ⟨gb258, 1, none⟩ = some (.int .i64 a0_1) := (blk_cell BK258.out 1).trans rfl
              have hcz50_2 : wc.cell? ⟨gb258, 2, none⟩ = some (.int .i64 a0_2) := (blk_cell BK258.out 2).trans rfl
              have hcz50_3 : wc.cell? ⟨gb258, 3, none⟩ = some (.int .i64 a0_3) := (blk_cell BK258.out 3).trans rfl
              have hcz50_4 : wc.cell? ⟨gb258, 4, none⟩ = some (.bool a0_4) := (blk_cell BK258.out 4).trans rfl
              have hcz50_5 : wc.cell? ⟨gb258, 5, none⟩ = some (.int .i64 a0_5) := (blk_cell BK258.out 5).trans rfl
              have hcz50_6 : wc.cell? ⟨gb258, 6, none⟩ = some (.int .i64 a0_6) := (blk_cell BK258.out 6).trans rfl
              have hcz50_7 : wc.cell? ⟨gb258, 7, none⟩ = some (.int .i64 a0_7) := (blk_cell BK258.out 7).trans rfl
              have hcz50_8 : wc.cell? ⟨gb258, 8, none⟩ = some (.int .i64 a0_8) := (blk_cell BK258.out 8).trans rfl
              have hcz50_9 : wc.cell? ⟨gb258, 9, none⟩ = some (.int .i64 a0_9) := (blk_cell BK258.out 9).trans rfl
              have hcz50_10 : wc.cell? ⟨gb258, 10, none⟩ = some (.int .i64 a0_10) := (blk_cell BK258.out 10).trans rfl
              have hcz50_11 : wc.cell? ⟨gb258, 11, none⟩ = some (.int .i64 a0_11) := (blk_cell BK258.out 11).trans rfl
              have hcz50_12 : wc.cell? ⟨gb258, 12, none⟩ = some (.int .i64 a0_12) := (blk_cell BK258.out 12).trans rfl
              have hcz50_13 : wc.cell? ⟨gb258, 13, none⟩ = some (.int .i64 a0_13) := (blk_cell BK258.out 13).trans rfl
              have hfz50_0 := blk_frozen BK258.out 0
              have hfz50_1 := blk_frozen BK258.out 1
              have hfz50_2 := blk_frozen BK258.out 2
              have hfz50_3 := blk_frozen BK258.out 3
              have hfz50_4 := blk_frozen BK258.out 4
              have hfz50_5 := blk_frozen BK258.out 5
              have hfz50_6 := blk_frozen BK258.out 6
              have hfz50_7 := blk_frozen BK258.out 7
              have hfz50_8 := blk_frozen BK258.out 8
              have hfz50_9 := blk_frozen BK258.out 9
              have hfz50_10 := blk_frozen BK258.out 10
              have hfz50_11 := blk_frozen BK258.out 11
              have hfz50_12 := blk_frozen BK258.out 12
              have hfz50_13 := blk_frozen BK258.out 13
              go_wp2_with (first | (go_at_call 15; (with_reducible refine (spec_NiceOk.calls a0_12 true _ A47.out).mono ?_); rintro e w' ⟨rfl, ⟨nd, rfl⟩⟩; (try first | exact ⟨rfl, _, World.drewN_drewN _ _ _⟩ | exact ⟨rfl, _, Eq.trans (World.drewN_drewN _ _ _) (congrArg (World.drewN _) (Nat.add_assoc _ _ _))⟩)) | (go_at_call 41; (with_reducible refine (spec_l1In.calls a0_13 0 100000000 t273 _ A49.out).mono ?_); rintro e w' ⟨rfl, ⟨nd, rfl⟩⟩; (try first | exact ⟨rfl, _, World.drewN_drewN _ _ _⟩ | exact ⟨rfl, _, Eq.trans (World.drewN_drewN _ _ _) (congrArg (World.drewN _) (Nat.add_assoc _ _ _))⟩)))
              repeat (go_quiet (first | (go_at_call 15; (with_reducible refine (spec_NiceOk.calls a0_12 true _ A47.out).mono ?_); rintro e w' ⟨rfl, ⟨nd, rfl⟩⟩; (try first | exact ⟨rfl, _, World.drewN_drewN _ _ _⟩ | exact ⟨rfl, _, Eq.trans (World.drewN_drewN _ _ _) (congrArg (World.drewN _) (Nat.add_assoc _ _ _))⟩)) | (go_at_call 41; (with_reducible refine (spec_l1In.calls a0_13 0 100000000 t273 _ A49.out).mono ?_); rintro e w' ⟨rfl, ⟨nd, rfl⟩⟩; (try first | exact ⟨rfl, _, World.drewN_drewN _ _ _⟩ | exact ⟨rfl, _, Eq.trans (World.drewN_drewN _ _ _) (congrArg (World.drewN _) (Nat.add_assoc _ _ _))⟩))); try go_wp2_with (first | (go_at_call 15; (with_reducible refine (spec_NiceOk.calls a0_12 true _ A47.out).mono ?_); rintro e w' ⟨rfl, ⟨nd, rfl⟩⟩; (try first | exact ⟨rfl, _, World.drewN_drewN _ _ _⟩ | exact ⟨rfl, _, Eq.trans (World.drewN_drewN _ _ _) (congrArg (World.drewN _) (Nat.add_assoc _ _ _))⟩)) | (go_at_call 41; (with_reducible refine (spec_l1In.calls a0_13 0 100000000 t273 _ A49.out).mono ?_); rintro e w' ⟨rfl, ⟨nd, rfl⟩⟩; (try first | exact ⟨rfl, _, World.drewN_drewN _ _ _⟩ | exact ⟨rfl, _, Eq.trans (World.drewN_drewN _ _ _) (congrArg (World.drewN _) (Nat.add_assoc _ _ _))⟩))))
              go_ret
              exact ⟨by first | rfl | (simp [errW_none, errW_some] <;> rfl) | (simp [*, errW_none, errW_some] <;> rfl), by repeat (first | (with_reducible first | exact HB.out | apply below_alloc | apply pw_below_drewN | apply below_drew1 | refine below_set ?_ GE258.out) | exact HB.out)⟩
            · replace c48 := Bool.eq_false_iff.mpr c48
              subst c48
              have H1 : (some false) = some r := by rw [if_neg (show ¬ (false = true) by decide)] at H; exact H
              clear H
              have H := H1
              clear H1
              obtain rfl := Option.some.inj H
              have hcz51_0 : wc.cell? ⟨gb258, 0, none⟩ = some (.int .i64 a0_0) := (blk_cell BK258.out 0).trans rfl
              have hcz51_1 : wc.cell? ⟨gb258, 1, none⟩ = some (.int .i64 a0_1) := (blk_cell BK258.out 1).trans rfl
              have hcz51_2 : wc.cell? ⟨gb258, 2, none⟩ = some (.int .i64 a0_2) := (blk_cell BK258.out 2).trans rfl
              have hcz51_3 : wc.cell? ⟨gb258, 3, none⟩ = some (.int .i64 a0_3) := (blk_cell BK258.out 3).trans rfl
              have hcz51_4 : wc.cell? ⟨gb258, 4, none⟩ = some (.bool a0_4) := (blk_cell BK258.out 4).trans rfl
              have hcz51_5 : wc.cell? ⟨gb258, 5, none⟩ = some (.int .i64 a0_5) := (blk_cell BK258.out 5).trans rfl
              have hcz51_6 : wc.cell? ⟨gb258, 6, none⟩ = some (.int .i64 a0_6) := (blk_cell BK258.out 6).trans rfl
              have hcz51_7 : wc.cell? ⟨gb258, 7, none⟩ = some (.int .i64 a0_7) := (blk_cell BK258.out 7).trans rfl
              have hcz51_8 : wc.cell? ⟨gb258, 8, none⟩ = some (.int .i64 a0_8) := (blk_cell BK258.out 8).trans rfl
              have hcz51_9 : wc.cell? ⟨gb258, 9, none⟩ = some (.int .i64 a0_9) := (blk_cell BK258.out 9).trans rfl
              have hcz51_10 : wc.cell? ⟨gb258, 10, none⟩ = some (.int .i64 a0_10) := (blk_cell BK258.out 10).trans rfl
              have hcz51_11 : wc.cell? ⟨gb258, 11, none⟩ = some (.int .i64 a0_11) := (blk_cell BK258.out 11).trans rfl
              have hcz51_12 : wc.cell? ⟨gb258, 12, none⟩ = some (.int .i64 a0_12) := (blk_cell BK258.out 12).trans rfl
              have hcz51_13 : wc.cell? ⟨gb258, 13, none⟩ = some (.int .i64 a0_13) := (blk_cell BK258.out 13).trans rfl
              have hfz51_0 := blk_frozen BK258.out 0
              have hfz51_1 := blk_frozen BK258.out 1
              have hfz51_2 := blk_frozen BK258.out 2
              have hfz51_3 := blk_frozen BK258.out 3
              have hfz51_4 := blk_frozen BK258.out 4
              have hfz51_5 := blk_frozen BK258.out 5
              have hfz51_6 := blk_frozen BK258.out 6
              have hfz51_7 := blk_frozen BK258.out 7
              have hfz51_8 := blk_frozen BK258.out 8
              have hfz51_9 := blk_frozen BK258.out 9
              have hfz51_10 := blk_frozen BK258.out 10
              have hfz51_11 := blk_frozen BK258.out 11
              have hfz51_12 := blk_frozen BK258.out 12
              have hfz51_13 := blk_frozen BK258.out 13
              go_wp2_with (first | (go_at_call 15; (with_reducible refine (spec_NiceOk.calls a0_12 false _ A47.out).mono ?_); rintro e w' ⟨rfl, ⟨nd, rfl⟩⟩; (try first | exact ⟨rfl, _, World.drewN_drewN _ _ _⟩ | exact ⟨rfl, _, Eq.trans (World.drewN_drewN _ _ _) (congrArg (World.drewN _) (Nat.add_assoc _ _ _))⟩)))
              repeat (go_quiet (first | (go_at_call 15; (with_reducible refine (spec_NiceOk.calls a0_12 false _ A47.out).mono ?_); rintro e w' ⟨rfl, ⟨nd, rfl⟩⟩; (try first | exact ⟨rfl, _, World.drewN_drewN _ _ _⟩ | exact ⟨rfl, _, Eq.trans (World.drewN_drewN _ _ _) (congrArg (World.drewN _) (Nat.add_assoc _ _ _))⟩))); try go_wp2_with (first | (go_at_call 15; (with_reducible refine (spec_NiceOk.calls a0_12 false _ A47.out).mono ?_); rintro e w' ⟨rfl, ⟨nd, rfl⟩⟩; (try first | exact ⟨rfl, _, World.drewN_drewN _ _ _⟩ | exact ⟨rfl, _, Eq.trans (World.drewN_drewN _ _ _) (congrArg (World.drewN _) (Nat.add_assoc _ _ _))⟩))))
              go_ret
              exact ⟨by first | rfl | (simp [errW_none, errW_some] <;> rfl) | (simp [*, errW_none, errW_some] <;> rfl), by repeat (first | (with_reducible first | exact HB.out | apply below_alloc | apply pw_below_drewN | apply below_drew1 | refine below_set ?_ GE258.out) | exact HB.out)⟩

/-! spec_TaskOk, told plainly -/
theorem p_sin_eq (a b c : Int) : spec_l1In.f a b c = some (decide (b ≤ a ∧ a ≤ c)) := by
  unfold spec_l1In.f
  by_cases h : a ≥ b
  · rw [if_pos h]; simp [show b ≤ a from h]
  · rw [if_neg h]; simp; omega
theorem p_snice_eq (a : Int) : spec_NiceOk.f a = some (decide (-4 ≤ a ∧ a ≤ 4)) := by
  unfold spec_NiceOk.f
  rw [p_sin_eq]
  rfl
theorem p_sshare_eq (q p : Int) : spec_ShareOk.f q p = some (decide (ShareP q p)) := by
  unfold spec_ShareOk.f ShareP
  simp only [p_sin_eq, Option.bind_some, decide_eq_true_eq]
  by_cases h : 1 ≤ p ∧ p ≤ 40
  · simp only [h, and_self, if_true, true_and]
  · simp only [h, if_false, false_and, decide_false]
theorem p_clean_tk (k : Nat) (a0 a1 a2 a3 : Int) (a4 : Bool) (a5 a6 a7 a8 a9 a10 a11 a12 a13 : Int) : spec_l3Clean.f (k + 3) a0 a1 a2 a3 a4 a5 a6 a7 a8 a9 a10 a11 a12 a13 = some (decide (CleanP a1 a5 a6 a7 a8 a9 a10 a11 a12 a13)) := by
  have e : (false : Bool) = decide False := rfl
  simp only [spec_l3Clean.f, spec_l3Clean.j0, spec_l3Clean.j1, spec_l3Clean.j2, dBeq, e]
  simp only [decide_eq_true_eq, dIte, if_false]
  refine congrArg some (decide_eq_decide.2 ?_)
  unfold CleanP
  simp only [and_false, or_false]
  by_cases h1 : a1 = 1
  · subst h1
    by_cases h5 : a5 = 0 <;> by_cases h6 : a6 = 0 <;> by_cases h9 : a9 = 0 <;> by_cases h10 : a10 = 0 <;> by_cases h12 : a12 = 0 <;> simp [*]
  · by_cases h2 : a1 = 2
    · subst h2
      by_cases h5 : a5 = 0 <;> by_cases h6 : a6 = 0 <;> by_cases h9 : a9 = 0 <;> by_cases h10 : a10 = 0 <;> by_cases h12 : a12 = 0 <;> simp [*]
    · by_cases h5 : a5 = 0 <;> by_cases h6 : a6 = 0 <;> by_cases h9 : a9 = 0 <;> by_cases h10 : a10 = 0 <;> by_cases h12 : a12 = 0 <;> simp [*]
theorem p_sMin_eq (a b : Int) : spec_l1Min.f a b = some (if a < b then a else b) := by
  unfold spec_l1Min.f
  split <;> rfl
theorem p_spec_tk (a0 a1 a2 a3 : Int) (a4 : Bool) (a5 a6 a7 a8 a9 a10 a11 a12 a13 : Int) : spec_TaskOk0.f 3 a0 a1 a2 a3 a4 a5 a6 a7 a8 a9 a10 a11 a12 a13 = some (decide (TaskP a0 a1 a2 a3 a5 a6 a7 a8 a9 a10 a11 a12 a13)) := by
  simp only [spec_TaskOk0.f, p_clean_tk 0, spec_TaskOk0.j0, p_sshare_eq, p_snice_eq, p_sin_eq, p_sMin_eq, Option.bind_some, dNot, dFalse, decide_eq_true_eq, dIte, if_true, and_false, or_false, false_or, Classical.not_not]
  refine congrArg some (decide_eq_decide.2 ?_)
  unfold TaskP ShareP CleanP
  by_cases h1 : a1 = 1
  · subst h1
    simp only [true_and, not_true_eq_false, false_and, or_false, Int.reduceEq]
    omega
  · by_cases h2 : a1 = 2
    · subst h2
      simp only [true_and, not_true_eq_false, not_false_eq_true, false_and, or_false, false_or, Int.reduceEq]
      omega
    · by_cases h3 : a1 = 3
      · subst h3
        simp only [true_and, not_true_eq_false, not_false_eq_true, false_and, or_false, false_or, Int.reduceEq]
        omega
      · have e1 : ¬ (1 ≤ a1 ∧ a1 ≤ 3) := by omega
        simp only [h1, h2, h3, e1, false_and, and_false, or_false]
-- WRAP rounds=no
def spec_TaskOk.f (a0_0 : Int) (a0_1 : Int) (a0_2 : Int) (a0_3 : Int) (a0_4 : Bool) (a0_5 : Int) (a0_6 : Int) (a0_7 : Int) (a0_8 : Int) (a0_9 : Int) (a0_10 : Int) (a0_11 : Int) (a0_12 : Int) (a0_13 : Int) : Option (Bool) := some (decide (TaskP a0_0 a0_1 a0_2 a0_3 a0_5 a0_6 a0_7 a0_8 a0_9 a0_10 a0_11 a0_12 a0_13))
theorem spec_TaskOk.calls (a0_0 : Int) (a0_1 : Int) (a0_2 : Int) (a0_3 : Int) (a0_4 : Bool) (a0_5 : Int) (a0_6 : Int) (a0_7 : Int) (a0_8 : Int) (a0_9 : Int) (a0_10 : Int) (a0_11 : Int) (a0_12 : Int) (a0_13 : Int) (r : Bool) (w : World) (h : spec_TaskOk.f a0_0 a0_1 a0_2 a0_3 a0_4 a0_5 a0_6 a0_7 a0_8 a0_9 a0_10 a0_11 a0_12 a0_13 = some r) :
    Calls Try.prog 34 #[.agg #[.int .i64 a0_0, .int .i64 a0_1, .int .i64 a0_2, .int .i64 a0_3, .bool a0_4, .int .i64 a0_5, .int .i64 a0_6, .int .i64 a0_7, .int .i64 a0_8, .int .i64 a0_9, .int .i64 a0_10, .int .i64 a0_11, .int .i64 a0_12, .int .i64 a0_13]] w fun e w' => e = .returned (.bool r) ∧ Below w.heap.size w w' := spec_TaskOk0.calls 3 a0_0 a0_1 a0_2 a0_3 a0_4 a0_5 a0_6 a0_7 a0_8 a0_9 a0_10 a0_11 a0_12 a0_13 r w ((p_spec_tk a0_0 a0_1 a0_2 a0_3 a0_4 a0_5 a0_6 a0_7 a0_8 a0_9 a0_10 a0_11 a0_12 a0_13).trans h)

end Go.Proofs.Ytbcpjbgcmkifiaa.Print
