/- Go functions as plain Lean functions, and that the Go code answers just as these, wherever they answer. Conditions: those of each theorem. Written by a program of this session (wip/patch.py). -/
import Derived.Test.YtbcpjbgcmkifiaaPrint0
namespace Go.Proofs.Ytbcpjbgcmkifiaa.Print
open Go.RowKit Go.Proofs.Ytbcpjbgcmkifiaa.Base Go.Proofs.YtbcpjbgcmkifiaaW.PrintWords Go.Proofs.YtbcpjbgcmkifiaaW.PrintLast Go.Proofs.YtbcpjbgcmkifiaaW.PrintMore
attribute [local go_sem] max2_int min2_int max_two min_two max_three min_three max_four min_four   -- for this text's walks alone
set_option linter.unusedVariables false
set_option linter.unusedSimpArgs false

/-! ### spec_l3Clean: function 49 -/
mutual
def spec_l3Clean.j0 : Nat → Bool → Int → Int → Int → Int → Bool → Int → Int → Int → Int → Int → Int → Int → Int → Int → Option (Bool)
  | 0, _, _, _, _, _, _, _, _, _, _, _, _, _, _, _ => none
  | k + 1, x3, x258000, x258001, x258002, x258003, x258004, x258005, x258006, x258007, x258008, x258009, x258010, x258011, x258012, x258013 => if x258009 = 0 then (if x258010 = 0 then (spec_l3Clean.j1 k x3 (x258011 == 0) x258000 x258001 x258002 x258003 x258004 x258005 x258006 x258007 x258008 x258009 x258010 x258011 x258012 x258013) else (spec_l3Clean.j1 k x3 false x258000 x258001 x258002 x258003 x258004 x258005 x258006 x258007 x258008 x258009 x258010 x258011 x258012 x258013)) else (spec_l3Clean.j1 k x3 false x258000 x258001 x258002 x258003 x258004 x258005 x258006 x258007 x258008 x258009 x258010 x258011 x258012 x258013)
def spec_l3Clean.j1 : Nat → Bool → Bool → Int → Int → Int → Int → Bool → Int → Int → Int → Int → Int → Int → Int → Int → Int → Option (Bool)
  | 0, _, _, _, _, _, _, _, _, _, _, _, _, _, _, _, _ => none
  | k + 1, x3, x4, x258000, x258001, x258002, x258003, x258004, x258005, x258006, x258007, x258008, x258009, x258010, x258011, x258012, x258013 => if x258012 = 0 then (spec_l3Clean.j2 k x3 x4 (x258013 == 0) x258000 x258001 x258002 x258003 x258004 x258005 x258006 x258007 x258008 x258009 x258010 x258011 x258012 x258013) else (spec_l3Clean.j2 k x3 x4 false x258000 x258001 x258002 x258003 x258004 x258005 x258006 x258007 x258008 x258009 x258010 x258011 x258012 x258013)
def spec_l3Clean.j2 : Nat → Bool → Bool → Bool → Int → Int → Int → Int → Bool → Int → Int → Int → Int → Int → Int → Int → Int → Int → Option (Bool)
  | 0, _, _, _, _, _, _, _, _, _, _, _, _, _, _, _, _, _ => none
  | k + 1, x3, x4, x5, x258000, x258001, x258002, x258003, x258004, x258005, x258006, x258007, x258008, x258009, x258010, x258011, x258012, x258013 => if x258001 = 1 then (if x4 = true then (some x5) else (some false)) else (if x258001 = 2 then (if x3 = true then (some x5) else (some false)) else (if x3 = true then (if x4 = true then (some (x258007 == 0)) else (some false)) else (some false)))
end
def spec_l3Clean.f (k : Nat) (a0_0 : Int) (a0_1 : Int) (a0_2 : Int) (a0_3 : Int) (a0_4 : Bool) (a0_5 : Int) (a0_6 : Int) (a0_7 : Int) (a0_8 : Int) (a0_9 : Int) (a0_10 : Int) (a0_11 : Int) (a0_12 : Int) (a0_13 : Int) : Option (Bool) := if a0_5 = 0 then (if a0_6 = 0 then (spec_l3Clean.j0 k (a0_8 == 0) a0_0 a0_1 a0_2 a0_3 a0_4 a0_5 a0_6 a0_7 a0_8 a0_9 a0_10 a0_11 a0_12 a0_13) else (spec_l3Clean.j0 k false a0_0 a0_1 a0_2 a0_3 a0_4 a0_5 a0_6 a0_7 a0_8 a0_9 a0_10 a0_11 a0_12 a0_13)) else (spec_l3Clean.j0 k false a0_0 a0_1 a0_2 a0_3 a0_4 a0_5 a0_6 a0_7 a0_8 a0_9 a0_10 a0_11 a0_12 a0_13)
theorem spec_l3Clean.mono_l : ∀ k, (∀ y0 y1 y2 y3 y4 y5 y6 y7 y8 y9 y10 y11 y12 y13 y14, LeO (spec_l3Clean.j0 k y0 y1 y2 y3 y4 y5 y6 y7 y8 y9 y10 y11 y12 y13 y14) (spec_l3Clean.j0 (k + 1) y0 y1 y2 y3 y4 y5 y6 y7 y8 y9 y10 y11 y12 y13 y14)) ∧ (∀ y0 y1 y2 y3 y4 y5 y6 y7 y8 y9 y10 y11 y12 y13 y14 y15, LeO (spec_l3Clean.j1 k y0 y1 y2 y3 y4 y5 y6 y7 y8 y9 y10 y11 y12 y13 y14 y15) (spec_l3Clean.j1 (k + 1) y0 y1 y2 y3 y4 y5 y6 y7 y8 y9 y10 y11 y12 y13 y14 y15)) ∧ (∀ y0 y1 y2 y3 y4 y5 y6 y7 y8 y9 y10 y11 y12 y13 y14 y15 y16, LeO (spec_l3Clean.j2 k y0 y1 y2 y3 y4 y5 y6 y7 y8 y9 y10 y11 y12 y13 y14 y15 y16) (spec_l3Clean.j2 (k + 1) y0 y1 y2 y3 y4 y5 y6 y7 y8 y9 y10 y11 y12 y13 y14 y15 y16))
  | 0 => ⟨fun _ _ _ _ _ _ _ _ _ _ _ _ _ _ _ r h => by simp [spec_l3Clean.j0] at h, fun _ _ _ _ _ _ _ _ _ _ _ _ _ _ _ _ r h => by simp [spec_l3Clean.j1] at h, fun _ _ _ _ _ _ _ _ _ _ _ _ _ _ _ _ _ r h => by simp [spec_l3Clean.j2] at h⟩
  | k + 1 => by
    obtain ⟨ih0, ih1, ih2⟩ := spec_l3Clean.mono_l k
    refine ⟨?_, ?_, ?_⟩
    · intro y0 y1 y2 y3 y4 y5 y6 y7 y8 y9 y10 y11 y12 y13 y14
      unfold spec_l3Clean.j0
      repeat' first
      | (with_reducible exact ih0 _ _ _ _ _ _ _ _ _ _ _ _ _ _ _)
      | (with_reducible exact ih1 _ _ _ _ _ _ _ _ _ _ _ _ _ _ _ _)
      | (with_reducible exact ih2 _ _ _ _ _ _ _ _ _ _ _ _ _ _ _ _ _)
      | (with_reducible exact LeO.refl _)
      | (with_reducible exact LeO.none _)
      | (with_reducible refine LeO.ite ?_ ?_)
      | (with_reducible refine LeO.bind ?_ (fun _ => ?_))
      | exact ih0 _ _ _ _ _ _ _ _ _ _ _ _ _ _ _
      | exact ih1 _ _ _ _ _ _ _ _ _ _ _ _ _ _ _ _
      | exact ih2 _ _ _ _ _ _ _ _ _ _ _ _ _ _ _ _ _
      | exact LeO.none _
      | refine LeO.ite ?_ ?_
      | refine LeO.bind ?_ (fun _ => ?_)
    · intro y0 y1 y2 y3 y4 y5 y6 y7 y8 y9 y10 y11 y12 y13 y14 y15
      unfold spec_l3Clean.j1
      repeat' first
      | (with_reducible exact ih0 _ _ _ _ _ _ _ _ _ _ _ _ _ _ _)
      | (with_reducible exact ih1 _ _ _ _ _ _ _ _ _ _ _ _ _ _ _ _)
      | (with_reducible exact ih2 _ _ _ _ _ _ _ _ _ _ _ _ _ _ _ _ _)
      | (with_reducible exact LeO.refl _)
      | (with_reducible exact LeO.none _)
      | (with_reducible refine LeO.ite ?_ ?_)
      | (with_reducible refine LeO.bind ?_ (fun _ => ?_))
      | exact ih0 _ _ _ _ _ _ _ _ _ _ _ _ _ _ _
      | exact ih1 _ _ _ _ _ _ _ _ _ _ _ _ _ _ _ _
      | exact ih2 _ _ _ _ _ _ _ _ _ _ _ _ _ _ _ _ _
      | exact LeO.none _
      | refine LeO.ite ?_ ?_
      | refine LeO.bind ?_ (fun _ => ?_)
    · intro y0 y1 y2 y3 y4 y5 y6 y7 y8 y9 y10 y11 y12 y13 y14 y15 y16
      unfold spec_l3Clean.j2
      repeat' first
      | (with_reducible exact ih0 _ _ _ _ _ _ _ _ _ _ _ _ _ _ _)
      | (with_reducible exact ih1 _ _ _ _ _ _ _ _ _ _ _ _ _ _ _ _)
      | (with_reducible exact ih2 _ _ _ _ _ _ _ _ _ _ _ _ _ _ _ _ _)
      | (with_reducible exact LeO.refl _)
      | (with_reducible exact LeO.none _)
      | (with_reducible refine LeO.ite ?_ ?_)
      | (with_reducible refine LeO.bind ?_ (fun _ => ?_))
      | exact ih0 _ _ _ _ _ _ _ _ _ _ _ _ _ _ _
      | exact ih1 _ _ _ _ _ _ _ _ _ _ _ _ _ _ _ _
      | exact ih2 _ _ _ _ _ _ _ _ _ _ _ _ _ _ _ _ _
      | exact LeO.none _
      | refine LeO.ite ?_ ?_
      | refine LeO.bind ?_ (fun _ => ?_)
theorem spec_l3Clean.mono : ∀ a0 a1 a2 a3 a4 a5 a6 a7 a8 a9 a10 a11 a12 a13 k, LeO (spec_l3Clean.f k a0 a1 a2 a3 a4 a5 a6 a7 a8 a9 a10 a11 a12 a13) (spec_l3Clean.f (k + 1) a0 a1 a2 a3 a4 a5 a6 a7 a8 a9 a10 a11 a12 a13) := by
  intro a0 a1 a2 a3 a4 a5 a6 a7 a8 a9 a10 a11 a12 a13 k
  obtain ⟨ih0, ih1, ih2⟩ := spec_l3Clean.mono_l k
  unfold spec_l3Clean.f
  repeat' first
      | (with_reducible exact ih0 _ _ _ _ _ _ _ _ _ _ _ _ _ _ _)
      | (with_reducible exact ih1 _ _ _ _ _ _ _ _ _ _ _ _ _ _ _ _)
      | (with_reducible exact ih2 _ _ _ _ _ _ _ _ _ _ _ _ _ _ _ _ _)
      | (with_reducible exact LeO.refl _)
      | (with_reducible exact LeO.none _)
      | (with_reducible refine LeO.ite ?_ ?_)
      | (with_reducible refine LeO.bind ?_ (fun _ => ?_))
      | exact ih0 _ _ _ _ _ _ _ _ _ _ _ _ _ _ _
      | exact ih1 _ _ _ _ _ _ _ _ _ _ _ _ _ _ _ _
      | exact ih2 _ _ _ _ _ _ _ _ _ _ _ _ _ _ _ _ _
      | exact LeO.none _
      | refine LeO.ite ?_ ?_
      | refine LeO.bind ?_ (fun _ => ?_)
set_option maxHeartbeats 8000000 in
set_option maxRecDepth 100000 in
theorem spec_l3Clean.calls (k : Nat) (a0_0 : Int) (a0_1 : Int) (a0_2 : Int) (a0_3 : Int) (a0_4 : Bool) (a0_5 : Int) (a0_6 : Int) (a0_7 : Int) (a0_8 : Int) (a0_9 : Int) (a0_10 : Int) (a0_11 : Int) (a0_12 : Int) (a0_13 : Int) (r : Bool) (w : World) (h : spec_l3Clean.f k a0_0 a0_1 a0_2 a0_3 a0_4 a0_5 a0_6 a0_7 a0_8 a0_9 a0_10 a0_11 a0_12 a0_13 = some r) :
    Calls Try.prog 49 #[.agg #[.int .i64 a0_0, .int .i64 a0_1, .int .i64 a0_2, .int .i64 a0_3, .bool a0_4, .int .i64 a0_5, .int .i64 a0_6, .int .i64 a0_7, .int .i64 a0_8, .int .i64 a0_9, .int .i64 a0_10, .int .i64 a0_11, .int .i64 a0_12, .int .i64 a0_13]] w fun e w' => e = .returned (.bool r) ∧ Below w.heap.size w w' := by
  have hu48 := Try.underlying48
  have HB := Aside0.mk (Below.refl w.heap.size w)
  have H : (if a0_5 = 0 then (if a0_6 = 0 then (spec_l3Clean.j0 k (a0_8 == 0) a0_0 a0_1 a0_2 a0_3 a0_4 a0_5 a0_6 a0_7 a0_8 a0_9 a0_10 a0_11 a0_12 a0_13) else (spec_l3Clean.j0 k false a0_0 a0_1 a0_2 a0_3 a0_4 a0_5 a0_6 a0_7 a0_8 a0_9 a0_10 a0_11 a0_12 a0_13)) else (spec_l3Clean.j0 k false a0_0 a0_1 a0_2 a0_3 a0_4 a0_5 a0_6 a0_7 a0_8 a0_9 a0_10 a0_11 a0_12 a0_13)) = some r := h
  clear h
  have HC2 := Aside0.mk H
  clear H
  go_enter Try.func49, Try.ntmps49
  go_upto_region 1 with (first | ((with_reducible refine gate_dst (N := 1) rfl ?_); refine box_event ?hg (N := 1) ?hd (cs := #[.int .i64 a0_0, .int .i64 a0_1, .int .i64 a0_2, .int .i64 a0_3, .bool a0_4, .int .i64 a0_5, .int .i64 a0_6, .int .i64 a0_7, .int .i64 a0_8, .int .i64 a0_9, .int .i64 a0_10, .int .i64 a0_11, .int .i64 a0_12, .int .i64 a0_13]) (t := 48) ?hr ?_; (case hd => rfl); (case hg => rfl); (case hr => first | (go_simp; done) | (go_simp; rfl)); intro gb257 hg w3 hbox hb; have n0_ := Aside0.mk (below_step (by repeat (first | (with_reducible first | exact HB.out | apply below_alloc | apply pw_below_drewN | apply below_drew1) | exact HB.out)) hb); have n1_ := Aside0.mk (hbox); have n2_ := Aside0.mk ((by rw [hg]; exact (below_size (by repeat (first | (with_reducible first | exact HB.out | apply below_alloc | apply pw_below_drewN | apply below_drew1) | exact HB.out))) : w.heap.size ≤ gb257)); have n3_ := Aside0.mk ((by rw [hg]; exact (below_size (by repeat (first | (with_reducible first | exact HB.out | apply below_alloc | apply pw_below_drewN | apply below_drew1) | exact HB.out))) : w.heap.size ≤ gb257)); clear HB; have HB := n0_; have BK257 := n1_; have GW257 := n2_; have GE257 := n3_; clear n0_ n1_ n2_ n3_; clear hb hbox hg))
  (try simp only [Act.put, List.setIfInBounds_toArray, List.set_cons_zero, List.set_cons_succ])
  go_cut [3] (fun v3 wc => ∃ (kq : Nat) (x3_1 : Bool), v3 = .bool x3_1 ∧ Aside0 (spec_l3Clean.j0 kq x3_1 a0_0 a0_1 a0_2 a0_3 a0_4 a0_5 a0_6 a0_7 a0_8 a0_9 a0_10 a0_11 a0_12 a0_13 = some r) ∧ Aside0 (kq ≤ k) ∧ Aside0 (wc.heap[gb257]? = some (.cells #[.int .i64 a0_0, .int .i64 a0_1, .int .i64 a0_2, .int .i64 a0_3, .bool a0_4, .int .i64 a0_5, .int .i64 a0_6, .int .i64 a0_7, .int .i64 a0_8, .int .i64 a0_9, .int .i64 a0_10, .int .i64 a0_11, .int .i64 a0_12, .int .i64 a0_13] 48 (0, 0))) ∧ Aside0 (Below w.heap.size w wc))
  case first =>
    have H := HC2.out
    clear HC2
    by_cases c4 : a0_5 = 0
    · rw [if_pos c4] at H
      have c4b0 : (a0_5 == 0) = true := beq_iff_eq.mpr c4
      have c4b1 : (a0_5 != 0) = false := bne_eq_false_iff_eq.mpr c4
      clear c4
      (first | rw [c4b0] | (simp only [i64_w, i32_w]; rw [c4b0]) | skip)
      by_cases c5 : a0_6 = 0
      · rw [if_pos c5] at H
        have c5b0 : (a0_6 == 0) = true := beq_iff_eq.mpr c5
        have c5b1 : (a0_6 != 0) = false := bne_eq_false_iff_eq.mpr c5
        clear c5
        have H' := Aside0.mk H
        clear H
        have hcz6_0 : w3.cell? ⟨gb257, 0, none⟩ = some (.int .i64 a0_0) := (blk_cell BK257.out 0).trans rfl
        have hcz6_1 : w3.cell? ⟨gb257, 1, none⟩ = some (.int .i64 a0_1) := (blk_cell BK257.out 1).trans rfl
        have hcz6_2 : w3.cell? ⟨gb257, 2, none⟩ = some (.int .i64 a0_2) := (blk_cell BK257.out 2).trans rfl
        have hcz6_3 : w3.cell? ⟨gb257, 3, none⟩ = some (.int .i64 a0_3) := (blk_cell BK257.out 3).trans rfl
        have hcz6_4 : w3.cell? ⟨gb257, 4, none⟩ = some (.bool a0_4) := (blk_cell BK257.out 4).trans rfl
        have hcz6_5 : w3.cell? ⟨gb257, 5, none⟩ = some (.int .i64 a0_5) := (blk_cell BK257.out 5).trans rfl
        have hcz6_6 : w3.cell? ⟨gb257, 6, none⟩ = some (.int .i64 a0_6) := (blk_cell BK257.out 6).trans rfl
        have hcz6_7 : w3.cell? ⟨gb257, 7, none⟩ = some (.int .i64 a0_7) := (blk_cell BK257.out 7).trans rfl
        have hcz6_8 : w3.cell? ⟨gb257, 8, none⟩ = some (.int .i64 a0_8) := (blk_cell BK257.out 8).trans rfl
        have hcz6_9 : w3.cell? ⟨gb257, 9, none⟩ = some (.int .i64 a0_9) := (blk_cell BK257.out 9).trans rfl
        have hcz6_10 : w3.cell? ⟨gb257, 10, none⟩ = some (.int .i64 a0_10) := (blk_cell BK257.out 10).trans rfl
        have hcz6_11 : w3.cell? ⟨gb257, 11, none⟩ = some (.int .i64 a0_11) := (blk_cell BK257.out 11).trans rfl
        have hcz6_12 : w3.cell? ⟨gb257, 12, none⟩ = some (.int .i64 a0_12) := (blk_cell BK257.out 12).trans rfl
        have hcz6_13 : w3.cell? ⟨gb257, 13, none⟩ = some (.int .i64 a0_13) := (blk_cell BK257.out 13).trans rfl
        have hfz6_0 := blk_frozen BK257.out 0
        have hfz6_1 := blk_frozen BK257.out 1
        have hfz6_2 := blk_frozen BK257.out 2
        have hfz6_3 := blk_frozen BK257.out 3
        have hfz6_4 := blk_frozen BK257.out 4
        have hfz6_5 := blk_frozen BK257.out 5
        have hfz6_6 := blk_frozen BK257.out 6
        have hfz6_7 := blk_frozen BK257.out 7
        have hfz6_8 := blk_frozen BK257.out 8
        have hfz6_9 := blk_frozen BK257.out 9
        have hfz6_10 := blk_frozen BK257.out 10
        have hfz6_11 := blk_frozen BK257.out 11
        have hfz6_12 := blk_frozen BK257.out 12
        have hfz6_13 := blk_frozen BK257.out 13
        go_wp2
        go_meet
        case rel => exact ⟨_, ((a0_8 == 0)), (by first | rfl | (simp; done) | (simp [*]; done)), H', ⟨by first | omega | exact Nat.le_refl _⟩, ⟨by (with_reducible repeat (first | refine blk_drewN ?_ _ | refine blk_drew ?_ | refine blk_alloc ?_ _)); exact BK257.out⟩, ⟨by repeat (first | (with_reducible first | exact HB.out | apply below_alloc | apply pw_below_drewN | apply below_drew1 | refine below_set ?_ GE257.out) | exact HB.out)⟩⟩
      · rw [if_neg c5] at H
        have c5b0 : (a0_6 == 0) = false := beq_eq_false_iff_ne.mpr c5
        have c5b1 : (a0_6 != 0) = true := bne_iff_ne.mpr c5
        have H' := Aside0.mk H
        clear H
        have hcz7_0 : w3.cell? ⟨gb257, 0, none⟩ = some (.int .i64 a0_0) := (blk_cell BK257.out 0).trans rfl
        have hcz7_1 : w3.cell? ⟨gb257, 1, none⟩ = some (.int .i64 a0_1) := (blk_cell BK257.out 1).trans rfl
        have hcz7_2 : w3.cell? ⟨gb257, 2, none⟩ = some (.int .i64 a0_2) := (blk_cell BK257.out 2).trans rfl
        have hcz7_3 : w3.cell? ⟨gb257, 3, none⟩ = some (.int .i64 a0_3) := (blk_cell BK257.out 3).trans rfl
        have hcz7_4 : w3.cell? ⟨gb257, 4, none⟩ = some (.bool a0_4) := (blk_cell BK257.out 4).trans rfl
        have hcz7_5 : w3.cell? ⟨gb257, 5, none⟩ = some (.int .i64 a0_5) := (blk_cell BK257.out 5).trans rfl
        have hcz7_6 : w3.cell? ⟨gb257, 6, none⟩ = some (.int .i64 a0_6) := (blk_cell BK257.out 6).trans rfl
        have hcz7_7 : w3.cell? ⟨gb257, 7, none⟩ = some (.int .i64 a0_7) := (blk_cell BK257.out 7).trans rfl
        have hcz7_8 : w3.cell? ⟨gb257, 8, none⟩ = some (.int .i64 a0_8) := (blk_cell BK257.out 8).trans rfl
        have hcz7_9 : w3.cell? ⟨gb257, 9, none⟩ = some (.int .i64 a0_9) := (blk_cell BK257.out 9).trans rfl
        have hcz7_10 : w3.cell? ⟨gb257, 10, none⟩ = some (.int .i64 a0_10) := (blk_cell BK257.out 10).trans rfl
        have hcz7_11 : w3.cell? ⟨gb257, 11, none⟩ = some (.int .i64 a0_11) := (blk_cell BK257.out 11).trans rfl
        have hcz7_12 : w3.cell? ⟨gb257, 12, none⟩ = some (.int .i64 a0_12) := (blk_cell BK257.out 12).trans rfl
        have hcz7_13 : w3.cell? ⟨gb257, 13, none⟩ = some (.int .i64 a0_13) := (blk_cell BK257.out 13).trans rfl
        have hfz7_0 := blk_frozen BK257.out 0
        have hfz7_1 := blk_frozen BK257.out 1
        have hfz7_2 := blk_frozen BK257.out 2
        have hfz7_3 := blk_frozen BK257.out 3
        have hfz7_4 := blk_frozen BK257.out 4
        have hfz7_5 := blk_frozen BK257.out 5
        have hfz7_6 := blk_frozen BK257.out 6
        have hfz7_7 := blk_frozen BK257.out 7
        have hfz7_8 := blk_frozen BK257.out 8
        have hfz7_9 := blk_frozen BK257.out 9
        have hfz7_10 := blk_frozen BK257.out 10
        have hfz7_11 := blk_frozen BK257.out 11
        have hfz7_12 := blk_frozen BK257.out 12
        have hfz7_13 := blk_frozen BK257.out 13
        go_wp2
        go_meet
        case rel => exact ⟨_, (false), (by first | rfl | (simp; done) | (simp [*]; done)), H', ⟨by first | omega | exact Nat.le_refl _⟩, ⟨by (with_reducible repeat (first | refine blk_drewN ?_ _ | refine blk_drew ?_ | refine blk_alloc ?_ _)); exact BK257.out⟩, ⟨by repeat (first | (with_reducible first | exact HB.out | apply below_alloc | apply pw_below_drewN | apply below_drew1 | refine below_set ?_ GE257.out) | exact HB.out)⟩⟩
    · rw [if_neg c4] at H
      have c4b0 : (a0_5 == 0) = false := beq_eq_false_iff_ne.mpr c4
      have c4b1 : (a0_5 != 0) = true := bne_iff_ne.mpr c4
      (first | rw [c4b0] | (simp only [i64_w, i32_w]; rw [c4b0]) | skip)
      have H' := Aside0.mk H
      clear H
      have hcz8_0 : w3.cell? ⟨gb257, 0, none⟩ = some (.int .i64 a0_0) := (blk_cell BK257.out 0).trans rfl
      have hcz8_1 : w3.cell? ⟨gb257, 1, none⟩ = some (.int .i64 a0_1) := (blk_cell BK257.out 1).trans rfl
      have hcz8_2 : w3.cell? ⟨gb257, 2, none⟩ = some (.int .i64 a0_2) := (blk_cell BK257.out 2).trans rfl
      have hcz8_3 : w3.cell? ⟨gb257, 3, none⟩ = some (.int .i64 a0_3) := (blk_cell BK257.out 3).trans rfl
      have hcz8_4 : w3.cell? ⟨gb257, 4, none⟩ = some (.bool a0_4) := (blk_cell BK257.out 4).trans rfl
      have hcz8_5 : w3.cell? ⟨gb257, 5, none⟩ = some (.int .i64 a0_5) := (blk_cell BK257.out 5).trans rfl
      have hcz8_6 : w3.cell? ⟨gb257, 6, none⟩ = some (.int .i64 a0_6) := (blk_cell BK257.out 6).trans rfl
      have hcz8_7 : w3.cell? ⟨gb257, 7, none⟩ = some (.int .i64 a0_7) := (blk_cell BK257.out 7).trans rfl
      have hcz8_8 : w3.cell? ⟨gb257, 8, none⟩ = some (.int .i64 a0_8) := (blk_cell BK257.out 8).trans rfl
      have hcz8_9 : w3.cell? ⟨gb257, 9, none⟩ = some (.int .i64 a0_9) := (blk_cell BK257.out 9).trans rfl
      have hcz8_10 : w3.cell? ⟨gb257, 10, none⟩ = some (.int .i64 a0_10) := (blk_cell BK257.out 10).trans rfl
      have hcz8_11 : w3.cell? ⟨gb257, 11, none⟩ = some (.int .i64 a0_11) := (blk_cell BK257.out 11).trans rfl
      have hcz8_12 : w3.cell? ⟨gb257, 12, none⟩ = some (.int .i64 a0_12) := (blk_cell BK257.out 12).trans rfl
      have hcz8_13 : w3.cell? ⟨gb257, 13, none⟩ = some (.int .i64 a0_13) := (blk_cell BK257.out 13).trans rfl
      have hfz8_0 := blk_frozen BK257.out 0
      have hfz8_1 := blk_frozen BK257.out 1
      have hfz8_2 := blk_frozen BK257.out 2
      have hfz8_3 := blk_frozen BK257.out 3
      have hfz8_4 := blk_frozen BK257.out 4
      have hfz8_5 := blk_frozen BK257.out 5
      have hfz8_6 := blk_frozen BK257.out 6
      have hfz8_7 := blk_frozen BK257.out 7
      have hfz8_8 := blk_frozen BK257.out 8
      have hfz8_9 := blk_frozen BK257.out 9
      have hfz8_10 := blk_frozen BK257.out 10
      have hfz8_11 := blk_frozen BK257.out 11
      have hfz8_12 := blk_frozen BK257.out 12
      have hfz8_13 := blk_frozen BK257.out 13
      go_wp2
      go_meet
      case rel => exact ⟨_, (false), (by first | rfl | (simp; done) | (simp [*]; done)), H', ⟨by first | omega | exact Nat.le_refl _⟩, ⟨by (with_reducible repeat (first | refine blk_drewN ?_ _ | refine blk_drew ?_ | refine blk_alloc ?_ _)); exact BK257.out⟩, ⟨by repeat (first | (with_reducible first | exact HB.out | apply below_alloc | apply pw_below_drewN | apply below_drew1 | refine below_set ?_ GE257.out) | exact HB.out)⟩⟩
  case rest =>
    clear HC2
    try clear p2
    try clear c4
    try clear c4b0
    try clear c4b1
    try clear c5
    try clear c5b0
    try clear c5b1
    try clear hcz6_0
    try clear hcz6_1
    try clear hcz6_10
    try clear hcz6_11
    try clear hcz6_12
    try clear hcz6_13
    try clear hcz6_2
    try clear hcz6_3
    try clear hcz6_4
    try clear hcz6_5
    try clear hcz6_6
    try clear hcz6_7
    try clear hcz6_8
    try clear hcz6_9
    try clear hcz7_0
    try clear hcz7_1
    try clear hcz7_10
    try clear hcz7_11
    try clear hcz7_12
    try clear hcz7_13
    try clear hcz7_2
    try clear hcz7_3
    try clear hcz7_4
    try clear hcz7_5
    try clear hcz7_6
    try clear hcz7_7
    try clear hcz7_8
    try clear hcz7_9
    try clear hcz8_0
    try clear hcz8_1
    try clear hcz8_10
    try clear hcz8_11
    try clear hcz8_12
    try clear hcz8_13
    try clear hcz8_2
    try clear hcz8_3
    try clear hcz8_4
    try clear hcz8_5
    try clear hcz8_6
    try clear hcz8_7
    try clear hcz8_8
    try clear hcz8_9
    try clear hfz6_0
    try clear hfz6_1
    try clear hfz6_10
    try clear hfz6_11
    try clear hfz6_12
    try clear hfz6_13
    try clear hfz6_2
    try clear hfz6_3
    try clear hfz6_4
    try clear hfz6_5
    try clear hfz6_6
    try clear hfz6_7
    try clear hfz6_8
    try clear hfz6_9
    try clear hfz7_0
    try clear hfz7_1
    try clear hfz7_10
    try clear hfz7_11
    try clear hfz7_12
    try clear hfz7_13
    try clear hfz7_2
    try clear hfz7_3
    try clear hfz7_4
    try clear hfz7_5
    try clear hfz7_6
    try clear hfz7_7
    try clear hfz7_8
    try clear hfz7_9
    try clear hfz8_0
    try clear hfz8_1
    try clear hfz8_10
    try clear hfz8_11
    try clear hfz8_12
    try clear hfz8_13
    try clear hfz8_2
    try clear hfz8_3
    try clear hfz8_4
    try clear hfz8_5
    try clear hfz8_6
    try clear hfz8_7
    try clear hfz8_8
    try clear hfz8_9
    obtain ⟨kq, x3_1, rfl, HA, HJ1, BK257, HB⟩ := hcut
    cases kq with
    | zero => exact absurd HA.out (by simp [spec_l3Clean.j0])
    | succ kj1 =>
      have H := HA.out
      clear HA
      simp only [spec_l3Clean.j0] at H
      have HC9 := Aside0.mk H
      clear H
      go_upto_region 2 with (fail)
      go_cut [4] (fun v4 wc => ∃ (kq : Nat) (x4_8 : Bool), v4 = .bool x4_8 ∧ Aside0 (spec_l3Clean.j1 kq x3_1 x4_8 a0_0 a0_1 a0_2 a0_3 a0_4 a0_5 a0_6 a0_7 a0_8 a0_9 a0_10 a0_11 a0_12 a0_13 = some r) ∧ Aside0 (kq ≤ kj1) ∧ Aside0 (wc.heap[gb257]? = some (.cells #[.int .i64 a0_0, .int .i64 a0_1, .int .i64 a0_2, .int .i64 a0_3, .bool a0_4, .int .i64 a0_5, .int .i64 a0_6, .int .i64 a0_7, .int .i64 a0_8, .int .i64 a0_9, .int .i64 a0_10, .int .i64 a0_11, .int .i64 a0_12, .int .i64 a0_13] 48 (0, 0))) ∧ Aside0 (Below w.heap.size w wc))
      case first =>
        have H := HC9.out
        clear HC9
        by_cases c10 : a0_9 = 0
        · rw [if_pos c10] at H
          have c10b0 : (a0_9 == 0) = true := beq_iff_eq.mpr c10
          have c10b1 : (a0_9 != 0) = false := bne_eq_false_iff_eq.mpr c10
          clear c10
          (first | rw [c10b0] | (simp only [i64_w, i32_w]; rw [c10b0]) | skip)
          by_cases c11 : a0_10 = 0
          · rw [if_pos c11] at H
            have c11b0 : (a0_10 == 0) = true := beq_iff_eq.mpr c11
            have c11b1 : (a0_10 != 0) = false := bne_eq_false_iff_eq.mpr c11
            clear c11
            have H' := Aside0.mk H
            clear H
            have hcz12_0 : wc.cell? ⟨gb257, 0, none⟩ = some (.int .i64 a0_0) := (blk_cell BK257.out 0).trans rfl
            have hcz12_1 : wc.cell? ⟨gb257, 1, none⟩ = some (.int .i64 a0_1) := (blk_cell BK257.out 1).trans rfl
            have hcz12_2 : wc.cell? ⟨gb257, 2, none⟩ = some (.int .i64 a0_2) := (blk_cell BK257.out 2).trans rfl
            have hcz12_3 : wc.cell? ⟨gb257, 3, none⟩ = some (.int .i64 a0_3) := (blk_cell BK257.out 3).trans rfl
            have hcz12_4 : wc.cell? ⟨gb257, 4, none⟩ = some (.bool a0_4) := (blk_cell BK257.out 4).trans rfl
            have hcz12_5 : wc.cell? ⟨gb257, 5, none⟩ = some (.int .i64 a0_5) := (blk_cell BK257.out 5).trans rfl
            have hcz12_6 : wc.cell? ⟨gb257, 6, none⟩ = some (.int .i64 a0_6) := (blk_cell BK257.out 6).trans rfl
            have hcz12_7 : wc.cell? ⟨gb257, 7, none⟩ = some (.int .i64 a0_7) := (blk_cell BK257.out 7).trans rfl
            have hcz12_8 : wc.cell? ⟨gb257, 8, none⟩ = some (.int .i64 a0_8) := (blk_cell BK257.out 8).trans rfl
            have hcz12_9 : wc.cell? ⟨gb257, 9, none⟩ = some (.int .i64 a0_9) := (blk_cell BK257.out 9).trans rfl
            have hcz12_10 : wc.cell? ⟨gb257, 10, none⟩ = some (.int .i64 a0_10) := (blk_cell BK257.out 10).trans rfl
            have hcz12_11 : wc.cell? ⟨gb257, 11, none⟩ = some (.int .i64 a0_11) := (blk_cell BK257.out 11).trans rfl
            have hcz12_12 : wc.cell? ⟨gb257, 12, none⟩ = some (.int .i64 a0_12) := (blk_cell BK257.out 12).trans rfl
            have hcz12_13 : wc.cell? ⟨gb257, 13, none⟩ = some (.int .i64 a0_13) := (blk_cell BK257.out 13).trans rfl
            have hfz12_0 := blk_frozen BK257.out 0
            have hfz12_1 := blk_frozen BK257.out 1
            have hfz12_2 := blk_frozen BK257.out 2
            have hfz12_3 := blk_frozen BK257.out 3
            have hfz12_4 := blk_frozen BK257.out 4
            have hfz12_5 := blk_frozen BK257.out 5
            have hfz12_6 := blk_frozen BK257.out 6
            have hfz12_7 := blk_frozen BK257.out 7
            have hfz12_8 := blk_frozen BK257.out 8
            have hfz12_9 := blk_frozen BK257.out 9
            have hfz12_10 := blk_frozen BK257.out 10
            have hfz12_11 := blk_frozen BK257.out 11
            have hfz12_12 := blk_frozen BK257.out 12
            have hfz12_13 := blk_frozen BK257.out 13
            go_wp2
            go_meet
            case rel => exact ⟨_, ((a0_11 == 0)), (by first | rfl | (simp; done) | (simp [*]; done)), H', ⟨by have := HJ1.out; first | omega | exact Nat.le_refl _⟩, ⟨by (with_reducible repeat (first | refine blk_drewN ?_ _ | refine blk_drew ?_ | refine blk_alloc ?_ _)); exact BK257.out⟩, ⟨by repeat (first | (with_reducible first | exact HB.out | apply below_alloc | apply pw_below_drewN | apply below_drew1 | refine below_set ?_ GE257.out) | exact HB.out)⟩⟩
          · rw [if_neg c11] at H
            have c11b0 : (a0_10 == 0) = false := beq_eq_false_iff_ne.mpr c11
            have c11b1 : (a0_10 != 0) = true := bne_iff_ne.mpr c11
            have H' := Aside0.mk H
            clear H
            have hcz13_0 : wc.cell? ⟨gb257, 0, none⟩ = some (.int .i64 a0_0) := (blk_cell BK257.out 0).trans rfl
            have hcz13_1 : wc.cell? ⟨gb257, 1, none⟩ = some (.int .i64 a0_1) := (blk_cell BK257.out 1).trans rfl
            have hcz13_2 : wc.cell? ⟨gb257, 2, none⟩ = some (.int .i64 a0_2) := (blk_cell BK257.out 2).trans rfl
            have hcz13_3 : wc.cell? ⟨gb257, 3, none⟩ = some (.int .i64 a0_3) := (blk_cell BK257.out 3).trans rfl
            have hcz13_4 : wc.cell? ⟨gb257, 4, none⟩ = some (.bool a0_4) := (blk_cell BK257.out 4).trans rfl
            have hcz13_5 : wc.cell? ⟨gb257, 5, none⟩ = some (.int .i64 a0_5) := (blk_cell BK257.out 5).trans rfl
            have hcz13_6 : wc.cell? ⟨gb257, 6, none⟩ = some (.int .i64 a0_6) := (blk_cell BK257.out 6).trans rfl
            have hcz13_7 : wc.cell? ⟨gb257, 7, none⟩ = some (.int .i64 a0_7) := (blk_cell BK257.out 7).trans rfl
            have hcz13_8 : wc.cell? ⟨gb257, 8, none⟩ = some (.int .i64 a0_8) := (blk_cell BK257.out 8).trans rfl
            have hcz13_9 : wc.cell? ⟨gb257, 9, none⟩ = some (.int .i64 a0_9) := (blk_cell BK257.out 9).trans rfl
            have hcz13_10 : wc.cell? ⟨gb257, 10, none⟩ = some (.int .i64 a0_10) := (blk_cell BK257.out 10).trans rfl
            have hcz13_11 : wc.cell? ⟨gb257, 11, none⟩ = some (.int .i64 a0_11) := (blk_cell BK257.out 11).trans rfl
            have hcz13_12 : wc.cell? ⟨gb257, 12, none⟩ = some (.int .i64 a0_12) := (blk_cell BK257.out 12).trans rfl
            have hcz13_13 : wc.cell? ⟨gb257, 13, none⟩ = some (.int .i64 a0_13) := (blk_cell BK257.out 13).trans rfl
            have hfz13_0 := blk_frozen BK257.out 0
            have hfz13_1 := blk_frozen BK257.out 1
            have hfz13_2 := blk_frozen BK257.out 2
            have hfz13_3 := blk_frozen BK257.out 3
            have hfz13_4 := blk_frozen BK257.out 4
            have hfz13_5 := blk_frozen BK257.out 5
            have hfz13_6 := blk_frozen BK257.out 6
            have hfz13_7 := blk_frozen BK257.out 7
            have hfz13_8 := blk_frozen BK257.out 8
            have hfz13_9 := blk_frozen BK257.out 9
            have hfz13_10 := blk_frozen BK257.out 10
            have hfz13_11 := blk_frozen BK257.out 11
            have hfz13_12 := blk_frozen BK257.out 12
            have hfz13_13 := blk_frozen BK257.out 13
            go_wp2
            go_meet
            case rel => exact ⟨_, (false), (by first | rfl | (simp; done) | (simp [*]; done)), H', ⟨by have := HJ1.out; first | omega | exact Nat.le_refl _⟩, ⟨by (with_reducible repeat (first | refine blk_drewN ?_ _ | refine blk_drew ?_ | refine blk_alloc ?_ _)); exact BK257.out⟩, ⟨by repeat (first | (with_reducible first | exact HB.out | apply below_alloc | apply pw_below_drewN | apply below_drew1 | refine below_set ?_ GE257.out) | exact HB.out)⟩⟩
        · rw [if_neg c10] at H
          have c10b0 : (a0_9 == 0) = false := beq_eq_false_iff_ne.mpr c10
          have c10b1 : (a0_9 != 0) = true := bne_iff_ne.mpr c10
          (first | rw [c10b0] | (simp only [i64_w, i32_w]; rw [c10b0]) | skip)
          have H' := Aside0.mk H
          clear H
          have hcz14_0 : wc.cell? ⟨gb257, 0, none⟩ = some (.int .i64 a0_0) := (blk_cell BK257.out 0).trans rfl
          have hcz14_1 : wc.cell? ⟨gb257, 1, none⟩ = some (.int .i64 a0_1) := (blk_cell BK257.out 1).trans rfl
          have hcz14_2 : wc.cell? ⟨gb257, 2, none⟩ = some (.int .i64 a0_2) := (blk_cell BK257.out 2).trans rfl
          have hcz14_3 : wc.cell? ⟨gb257, 3, none⟩ = some (.int .i64 a0_3) := (blk_cell BK257.out 3).trans rfl
          have hcz14_4 : wc.cell? ⟨gb257, 4, none⟩ = some (.bool a0_4) := (blk_cell BK257.out 4).trans rfl
          have hcz14_5 : wc.cell? ⟨gb257, 5, none⟩ = some (.int .i64 a0_5) := (blk_cell BK257.out 5).trans rfl
          have hcz14_6 : wc.cell? ⟨gb257, 6, none⟩ = some (.int .i64 a0_6) := (blk_cell BK257.out 6).trans rfl
          have hcz14_7 : wc.cell? ⟨gb257, 7, none⟩ = some (.int .i64 a0_7) := (blk_cell BK257.out 7).trans rfl
          have hcz14_8 : wc.cell? ⟨gb257, 8, none⟩ = some (.int .i64 a0_8) := (blk_cell BK257.out 8).trans rfl
          have hcz14_9 : wc.cell? ⟨gb257, 9, none⟩ = some (.int .i64 a0_9) := (blk_cell BK257.out 9).trans rfl
          have hcz14_10 : wc.cell? ⟨gb257, 10, none⟩ = some (.int .i64 a0_10) := (blk_cell BK257.out 10).trans rfl
          have hcz14_11 : wc.cell? ⟨gb257, 11, none⟩ = some (.int .i64 a0_11) := (blk_cell BK257.out 11).trans rfl
          have hcz14_12 : wc.cell? ⟨gb257, 12, none⟩ = some (.int .i64 a0_12) := (blk_cell BK257.out 12).trans rfl
          have hcz14_13 : wc.cell? ⟨gb257, 13, none⟩ = some (.int .i64 a0_13) := (blk_cell BK257.out 13).trans rfl
          have hfz14_0 := blk_frozen BK257.out 0
          have hfz14_1 := blk_frozen BK257.out 1
          have hfz14_2 := blk_frozen BK257.out 2
          have hfz14_3 := blk_frozen BK257.out 3
          have hfz14_4 := blk_frozen BK257.out 4
          have hfz14_5 := blk_frozen BK257.out 5
          have hfz14_6 := blk_frozen BK257.out 6
          have hfz14_7 := blk_frozen BK257.out 7
          have hfz14_8 := blk_frozen BK257.out 8
          have hfz14_9 := blk_frozen BK257.out 9
          have hfz14_10 := blk_frozen BK257.out 10
          have hfz14_11 := blk_frozen BK257.out 11
          have hfz14_12 := blk_frozen BK257.out 12
          have hfz14_13 := blk_frozen BK257.out 13
          go_wp2
          go_meet
          case rel => exact ⟨_, (false), (by first | rfl | (simp; done) | (simp [*]; done)), H', ⟨by have := HJ1.out; first | omega | exact Nat.le_refl _⟩, ⟨by (with_reducible repeat (first | refine blk_drewN ?_ _ | refine blk_drew ?_ | refine blk_alloc ?_ _)); exact BK257.out⟩, ⟨by repeat (first | (with_reducible first | exact HB.out | apply below_alloc | apply pw_below_drewN | apply below_drew1 | refine below_set ?_ GE257.out) | exact HB.out)⟩⟩
      case rest =>
        clear HC9
        try clear c1
        try clear p2
        try clear c4
        try clear c4b0
        try clear c4b1
        try clear c5
        try clear c5b0
        try clear c5b1
        try clear c10
        try clear c10b0
        try clear c10b1
        try clear c11
        try clear c11b0
        try clear c11b1
        try clear hcz12_0
        try clear hcz12_1
        try clear hcz12_10
        try clear hcz12_11
        try clear hcz12_12
        try clear hcz12_13
        try clear hcz12_2
        try clear hcz12_3
        try clear hcz12_4
        try clear hcz12_5
        try clear hcz12_6
        try clear hcz12_7
        try clear hcz12_8
        try clear hcz12_9
        try clear hcz13_0
        try clear hcz13_1
        try clear hcz13_10
        try clear hcz13_11
        try clear hcz13_12
        try clear hcz13_13
        try clear hcz13_2
        try clear hcz13_3
        try clear hcz13_4
        try clear hcz13_5
        try clear hcz13_6
        try clear hcz13_7
        try clear hcz13_8
        try clear hcz13_9
        try clear hcz14_0
        try clear hcz14_1
        try clear hcz14_10
        try clear hcz14_11
        try clear hcz14_12
        try clear hcz14_13
        try clear hcz14_2
        try clear hcz14_3
        try clear hcz14_4
        try clear hcz14_5
        try clear hcz14_6
        try clear hcz14_7
        try clear hcz14_8
        try clear hcz14_9
        try clear hcz6_0
        try clear hcz6_1
        try clear hcz6_10
        try clear hcz6_11
        try clear hcz6_12
        try clear hcz6_13
        try clear hcz6_2
        try clear hcz6_3
        try clear hcz6_4
        try clear hcz6_5
        try clear hcz6_6
        try clear hcz6_7
        try clear hcz6_8
        try clear hcz6_9
        try clear hcz7_0
        try clear hcz7_1
        try clear hcz7_10
        try clear hcz7_11
        try clear hcz7_12
        try clear hcz7_13
        try clear hcz7_2
        try clear hcz7_3
        try clear hcz7_4
        try clear hcz7_5
        try clear hcz7_6
        try clear hcz7_7
        try clear hcz7_8
        try clear hcz7_9
        try clear hcz8_0
        try clear hcz8_1
        try clear hcz8_10
        try clear hcz8_11
        try clear hcz8_12
        try clear hcz8_13
        try clear hcz8_2
        try clear hcz8_3
        try clear hcz8_4
        try clear hcz8_5
        try clear hcz8_6
        try clear hcz8_7
        try clear hcz8_8
        try clear hcz8_9
        try clear hfz12_0
        try clear hfz12_1
        try clear hfz12_10
        try clear hfz12_11
        try clear hfz12_12
        try clear hfz12_13
        try clear hfz12_2
        try clear hfz12_3
        try clear hfz12_4
        try clear hfz12_5
        try clear hfz12_6
        try clear hfz12_7
        try clear hfz12_8
        try clear hfz12_9
        try clear hfz13_0
        try clear hfz13_1
        try clear hfz13_10
        try clear hfz13_11
        try clear hfz13_12
        try clear hfz13_13
        try clear hfz13_2
        try clear hfz13_3
        try clear hfz13_4
        try clear hfz13_5
        try clear hfz13_6
        try clear hfz13_7
        try clear hfz13_8
        try clear hfz13_9
        try clear hfz14_0
        try clear hfz14_1
        try clear hfz14_10
        try clear hfz14_11
        try clear hfz14_12
        try clear hfz14_13
        try clear hfz14_2
        try clear hfz14_3
        try clear hfz14_4
        try clear hfz14_5
        try clear hfz14_6
        try clear hfz14_7
        try clear hfz14_8
        try clear hfz14_9
        try clear hfz6_0
        try clear hfz6_1
        try clear hfz6_10
        try clear hfz6_11
        try clear hfz6_12
        try clear hfz6_13
        try clear hfz6_2
        try clear hfz6_3
        try clear hfz6_4
        try clear hfz6_5
        try clear hfz6_6
        try clear hfz6_7
        try clear hfz6_8
        try clear hfz6_9
        try clear hfz7_0
        try clear hfz7_1
        try clear hfz7_10
        try clear hfz7_11
        try clear hfz7_12
        try clear hfz7_13
        try clear hfz7_2
        try clear hfz7_3
        try clear hfz7_4
        try clear hfz7_5
        try clear hfz7_6
        try clear hfz7_7
        try clear hfz7_8
        try clear hfz7_9
        try clear hfz8_0
        try clear hfz8_1
        try clear hfz8_10
        try clear hfz8_11
        try clear hfz8_12
        try clear hfz8_13
        try clear hfz8_2
        try clear hfz8_3
        try clear hfz8_4
        try clear hfz8_5
        try clear hfz8_6
        try clear hfz8_7
        try clear hfz8_8
        try clear hfz8_9
        try clear p2
        obtain ⟨kq, x4_8, rfl, HA, HJ8, BK257, HB⟩ := hcut
        cases kq with
        | zero => exact absurd HA.out (by simp [spec_l3Clean.j1])
        | succ kj8 =>
          have H := HA.out
          clear HA
          simp only [spec_l3Clean.j1] at H
          have HC15 := Aside0.mk H
          clear H
          go_upto_region 3 with (fail)
          go_cut [5] (fun v5 wc => ∃ (kq : Nat) (x5_14 : Bool), v5 = .bool x5_14 ∧ Aside0 (spec_l3Clean.j2 kq x3_1 x4_8 x5_14 a0_0 a0_1 a0_2 a0_3 a0_4 a0_5 a0_6 a0_7 a0_8 a0_9 a0_10 a0_11 a0_12 a0_13 = some r) ∧ Aside0 (kq ≤ kj8) ∧ Aside0 (wc.heap[gb257]? = some (.cells #[.int .i64 a0_0, .int .i64 a0_1, .int .i64 a0_2, .int .i64 a0_3, .bool a0_4, .int .i64 a0_5, .int .i64 a0_6, .int .i64 a0_7, .int .i64 a0_8, .int .i64 a0_9, .int .i64 a0_10, .int .i64 a0_11, .int .i64 a0_12, .int .i64 a0_13] 48 (0, 0))) ∧ Aside0 (Below w.heap.size w wc))
          case first =>
            have H := HC15.out
            clear HC15
            by_cases c16 : a0_12 = 0
            · rw [if_pos c16] at H
              have c16b0 : (a0_12 == 0) = true := beq_iff_eq.mpr c16
              have c16b1 : (a0_12 != 0) = false := bne_eq_false_iff_eq.mpr c16
              clear c16
              (first | rw [c16b0] | (simp only [i64_w, i32_w]; rw [c16b0]) | skip)
              have H' := Aside0.mk H
              clear H
              have hcz17_0 : wc.cell? ⟨gb257, 0, none⟩ = some (.int .i64 a0_0) := (blk_cell BK257.out 0).trans rfl
              have hcz17_1 : wc.cell? ⟨gb257, 1, none⟩ = some (.int .i64 a0_1) := (blk_cell BK257.out 1).trans rfl
              have hcz17_2 : wc.cell? ⟨gb257, 2, none⟩ = some (.int .i64 a0_2) := (blk_cell BK257.out 2).trans rfl
              have hcz17_3 : wc.cell? ⟨gb257, 3, none⟩ = some (.int .i64 a0_3) := (blk_cell BK257.out 3).trans rfl
              have hcz17_4 : wc.cell? ⟨gb257, 4, none⟩ = some (.bool a0_4) := (blk_cell BK257.out 4).trans rfl
              have hcz17_5 : wc.cell? ⟨gb257, 5, none⟩ = some (.int .i64 a0_5) := (blk_cell BK257.out 5).trans rfl
              have hcz17_6 : wc.cell? ⟨gb257, 6, none⟩ = some (.int .i64 a0_6) := (blk_cell BK257.out 6).trans rfl
              have hcz17_7 : wc.cell? ⟨gb257, 7, none⟩ = some (.int .i64 a0_7) := (blk_cell BK257.out 7).trans rfl
              have hcz17_8 : wc.cell? ⟨gb257, 8, none⟩ = some (.int .i64 a0_8) := (blk_cell BK257.out 8).trans rfl
              have hcz17_9 : wc.cell? ⟨gb257, 9, none⟩ = some (.int .i64 a0_9) := (blk_cell BK257.out 9).trans rfl
              have hcz17_10 : wc.cell? ⟨gb257, 10, none⟩ = some (.int .i64 a0_10) := (blk_cell BK257.out 10).trans rfl
              have hcz17_11 : wc.cell? ⟨gb257, 11, none⟩ = some (.int .i64 a0_11) := (blk_cell BK257.out 11).trans rfl
              have hcz17_12 : wc.cell? ⟨gb257, 12, none⟩ = some (.int .i64 a0_12) := (blk_cell BK257.out 12).trans rfl
              have hcz17_13 : wc.cell? ⟨gb257, 13, none⟩ = some (.int .i64 a0_13) := (blk_cell BK257.out 13).trans rfl
              have hfz17_0 := blk_frozen BK257.out 0
              have hfz17_1 := blk_frozen BK257.out 1
              have hfz17_2 := blk_frozen BK257.out 2
              have hfz17_3 := blk_frozen BK257.out 3
              have hfz17_4 := blk_frozen BK257.out 4
              have hfz17_5 := blk_frozen BK257.out 5
              have hfz17_6 := blk_frozen BK257.out 6
              have hfz17_7 := blk_frozen BK257.out 7
              have hfz17_8 := blk_frozen BK257.out 8
              have hfz17_9 := blk_frozen BK257.out 9
              have hfz17_10 := blk_frozen BK257.out 10
              have hfz17_11 := blk_frozen BK257.out 11
              have hfz17_12 := blk_frozen BK257.out 12
              have hfz17_13 := blk_frozen BK257.out 13
              go_wp2
              go_meet
              case rel => exact ⟨_, ((a0_13 == 0)), (by first | rfl | (simp; done) | (simp [*]; done)), H', ⟨by have := HJ1.out; have := HJ8.out; first | omega | exact Nat.le_refl _⟩, ⟨by (with_reducible repeat (first | refine blk_drewN ?_ _ | refine blk_drew ?_ | refine blk_alloc ?_ _)); exact BK257.out⟩, ⟨by repeat (first | (with_reducible first | exact HB.out | apply below_alloc | apply pw_below_drewN | apply below_drew1 | refine below_set ?_ GE257.out) | exact HB.out)⟩⟩
            · rw [if_neg c16] at H
              have c16b0 : (a0_12 == 0) = false := beq_eq_false_iff_ne.mpr c16
              have c16b1 : (a0_12 != 0) = true := bne_iff_ne.mpr c16
              (first | rw [c16b0] | (simp only [i64_w, i32_w]; rw [c16b0]) | skip)
              have H' := Aside0.mk H
              clear H
              have hcz18_0 : wc.cell? ⟨gb257, 0, none⟩ = some (.int .i64 a0_0) := (blk_cell BK257.out 0).trans rfl
              have hcz18_1 : wc.cell? ⟨gb257, 1, none⟩ = some (.int .i64 a0_1) := (blk_cell BK257.out 1).trans rfl
              have hcz18_2 : wc.cell? ⟨gb257, 2, none⟩ = some (.int .i64 a0_2) := (blk_cell BK257.out 2).trans rfl
              have hcz18_3 : wc.cell? ⟨gb257, 3, none⟩ = some (.int .i64 a0_3) := (blk_cell BK257.out 3).trans rfl
              have hcz18_4 : wc.cell? ⟨gb257, 4, none⟩ = some (.bool a0_4) := (blk_cell BK257.out 4).trans rfl
              have hcz18_5 : wc.cell? ⟨gb257, 5, none⟩ = some (.int .i64 a0_5) := (blk_cell BK257.out 5).trans rfl
              have hcz18_6 : wc.cell? ⟨gb257, 6, none⟩ = some (.int .i64 a0_6) := (blk_cell BK257.out 6).trans rfl
              have hcz18_7 : wc.cell? ⟨gb257, 7, none⟩ = some (.int .i64 a0_7) := (blk_cell BK257.out 7).trans rfl
              have hcz18_8 : wc.cell? ⟨gb257, 8, none⟩ = some (.int .i64 a0_8) := (blk_cell BK257.out 8).trans rfl
              have hcz18_9 : wc.cell? ⟨gb257, 9, none⟩ = some (.int .i64 a0_9) := (blk_cell BK257.out 9).trans rfl
              have hcz18_10 : wc.cell? ⟨gb257, 10, none⟩ = some (.int .i64 a0_10) := (blk_cell BK257.out 10).trans rfl
              have hcz18_11 : wc.cell? ⟨gb257, 11, none⟩ = some (.int .i64 a0_11) := (blk_cell BK257.out 11).trans rfl
              have hcz18_12 : wc.cell? ⟨gb257, 12, none⟩ = some (.int .i64 a0_12) := (blk_cell BK257.out 12).trans rfl
              have hcz18_13 : wc.cell? ⟨gb257, 13, none⟩ = some (.int .i64 a0_13) := (blk_cell BK257.out 13).trans rfl
              have hfz18_0 := blk_frozen BK257.out 0
              have hfz18_1 := blk_frozen BK257.out 1
              have hfz18_2 := blk_frozen BK257.out 2
              have hfz18_3 := blk_frozen BK257.out 3
              have hfz18_4 := blk_frozen BK257.out 4
              have hfz18_5 := blk_frozen BK257.out 5
              have hfz18_6 := blk_frozen BK257.out 6
              have hfz18_7 := blk_frozen BK257.out 7
              have hfz18_8 := blk_frozen BK257.out 8
              have hfz18_9 := blk_frozen BK257.out 9
              have hfz18_10 := blk_frozen BK257.out 10
              have hfz18_11 := blk_frozen BK257.out 11
              have hfz18_12 := blk_frozen BK257.out 12
              have hfz18_13 := blk_frozen BK257.out 13
              go_wp2
              go_meet
              case rel => exact ⟨_, (false), (by first | rfl | (simp; done) | (simp [*]; done)), H', ⟨by have := HJ1.out; have := HJ8.out; first | omega | exact Nat.le_refl _⟩, ⟨by (with_reducible repeat (first | refine blk_drewN ?_ _ | refine blk_drew ?_ | refine blk_alloc ?_ _)); exact BK257.out⟩, ⟨by repeat (first | (with_reducible first | exact HB.out | apply below_alloc | apply pw_below_drewN | apply below_drew1 | refine below_set ?_ GE257.out) | exact HB.out)⟩⟩
          case rest =>
            clear HC15
            try clear c1
            try clear p2
            try clear c4
            try clear c4b0
            try clear c4b1
            try clear c5
            try clear c5b0
            try clear c5b1
            try clear c10
            try clear c10b0
            try clear c10b1
            try clear c11
            try clear c11b0
            try clear c11b1
            try clear c16
            try clear c16b0
            try clear c16b1
            try clear hcz12_0
            try clear hcz12_1
            try clear hcz12_10
            try clear hcz12_11
            try clear hcz12_12
            try clear hcz12_13
            try clear hcz12_2
            try clear hcz12_3
            try clear hcz12_4
            try clear hcz12_5
            try clear hcz12_6
            try clear hcz12_7
            try clear hcz12_8
            try clear hcz12_9
            try clear hcz13_0
            try clear hcz13_1
            try clear hcz13_10
            try clear hcz13_11
            try clear hcz13_12
            try clear hcz13_13
            try clear hcz13_2
            try clear hcz13_3
            try clear hcz13_4
            try clear hcz13_5
            try clear hcz13_6
            try clear hcz13_7
            try clear hcz13_8
            try clear hcz13_9
            try clear hcz14_0
            try clear hcz14_1
            try clear hcz14_10
            try clear hcz14_11
            try clear hcz14_12
            try clear hcz14_13
            try clear hcz14_2
            try clear hcz14_3
            try clear hcz14_4
            try clear hcz14_5
            try clear hcz14_6
            try clear hcz14_7
            try clear hcz14_8
            try clear hcz14_9
            try clear hcz17_0
            try clear hcz17_1
            try clear hcz17_10
            try clear hcz17_11
            try clear hcz17_12
            try clear hcz17_13
            try clear hcz17_2
            try clear hcz17_3
            try clear hcz17_4
            try clear hcz17_5
            try clear hcz17_6
            try clear hcz17_7
            try clear hcz17_8
            try clear hcz17_9
            try clear hcz18_0
            try clear hcz18_1
            try clear hcz18_10
            try clear hcz18_11
            try clear hcz18_12
            try clear hcz18_13
            try clear hcz18_2
            try clear hcz18_3
            try clear hcz18_4
            try clear hcz18_5
            try clear hcz18_6
            try clear hcz18_7
            try clear hcz18_8
            try clear hcz18_9
            try clear hcz6_0
            try clear hcz6_1
            try clear hcz6_10
            try clear hcz6_11
            try clear hcz6_12
            try clear hcz6_13
            try clear hcz6_2
            try clear hcz6_3
            try clear hcz6_4
            try clear hcz6_5
            try clear hcz6_6
            try clear hcz6_7
            try clear hcz6_8
            try clear hcz6_9
            try clear hcz7_0
            try clear hcz7_1
            try clear hcz7_10
            try clear hcz7_11
            try clear hcz7_12
            try clear hcz7_13
            try clear hcz7_2
            try clear hcz7_3
            try clear hcz7_4
            try clear hcz7_5
            try clear hcz7_6
            try clear hcz7_7
            try clear hcz7_8
            try clear hcz7_9
            try clear hcz8_0
            try clear hcz8_1
            try clear hcz8_10
            try clear hcz8_11
            try clear hcz8_12
            try clear hcz8_13
            try clear hcz8_2
            try clear hcz8_3
            try clear hcz8_4
            try clear hcz8_5
            try clear hcz8_6
            try clear hcz8_7
            try clear hcz8_8
            try clear hcz8_9
            try clear hfz12_0
            try clear hfz12_1
            try clear hfz12_10
            try clear hfz12_11
            try clear hfz12_12
            try clear hfz12_13
            try clear hfz12_2
            try clear hfz12_3
            try clear hfz12_4
            try clear hfz12_5
            try clear hfz12_6
            try clear hfz12_7
            try clear hfz12_8
            try clear hfz12_9
            try clear hfz13_0
            try clear hfz13_1
            try clear hfz13_10
            try clear hfz13_11
            try clear hfz13_12
            try clear hfz13_13
            try clear hfz13_2
            try clear hfz13_3
            try clear hfz13_4
            try clear hfz13_5
            try clear hfz13_6
            try clear hfz13_7
            try clear hfz13_8
            try clear hfz13_9
            try clear hfz14_0
            try clear hfz14_1
            try clear hfz14_10
            try clear hfz14_11
            try clear hfz14_12
            try clear hfz14_13
            try clear hfz14_2
            try clear hfz14_3
            try clear hfz14_4
            try clear hfz14_5
            try clear hfz14_6
            try clear hfz14_7
            try clear hfz14_8
            try clear hfz14_9
            try clear hfz17_0
            try clear hfz17_1
            try clear hfz17_10
            try clear hfz17_11
            try clear hfz17_12
            try clear hfz17_13
            try clear hfz17_2
            try clear hfz17_3
            try clear hfz17_4
            try clear hfz17_5
            try clear hfz17_6
            try clear hfz17_7
            try clear hfz17_8
            try clear hfz17_9
            try clear hfz18_0
            try clear hfz18_1
            try clear hfz18_10
            try clear hfz18_11
            try clear hfz18_12
            try clear hfz18_13
            try clear hfz18_2
            try clear hfz18_3
            try clear hfz18_4
            try clear hfz18_5
            try clear hfz18_6
            try clear hfz18_7
            try clear hfz18_8
            try clear hfz18_9
            try clear hfz6_0
            try clear hfz6_1
            try clear hfz6_10
            try clear hfz6_11
            try clear hfz6_12
            try clear hfz6_13
            try clear hfz6_2
            try clear hfz6_3
            try clear hfz6_4
            try clear hfz6_5
            try clear hfz6_6
            try clear hfz6_7
            try clear hfz6_8
            try clear hfz6_9
            try clear hfz7_0
            try clear hfz7_1
            try clear hfz7_10
            try clear hfz7_11
            try clear hfz7_12
            try clear hfz7_13
            try clear hfz7_2
            try clear hfz7_3
            try clear hfz7_4
            try clear hfz7_5
            try clear hfz7_6
            try clear hfz7_7
            try clear hfz7_8
            try clear hfz7_9
            try clear hfz8_0
            try clear hfz8_1
            try clear hfz8_10
            try clear hfz8_11
            try clear hfz8_12
            try clear hfz8_13
            try clear hfz8_2
            try clear hfz8_3
            try clear hfz8_4
            try clear hfz8_5
            try clear hfz8_6
            try clear hfz8_7
            try clear hfz8_8
            try clear hfz8_9
            try clear p2
            obtain ⟨kq, x5_14, rfl, HA, HJ14, BK257, HB⟩ := hcut
            cases kq with
            | zero => exact absurd HA.out (by simp [spec_l3Clean.j2])
            | succ kj14 =>
              have H := HA.out
              clear HA
              simp only [spec_l3Clean.j2] at H
              by_cases c19 : a0_1 = 1
              · rw [if_pos c19] at H
                have c19b0 : (a0_1 == 1) = true := beq_iff_eq.mpr c19
                have c19b1 : (a0_1 != 1) = false := bne_eq_false_iff_eq.mpr c19
                clear c19
                by_cases c20 : x4_8 = true
                · subst c20
                  have H1 : (some x5_14) = some r := by rw [if_pos rfl] at H; exact H
                  clear H
                  have H := H1
                  clear H1
                  obtain rfl := Option.some.inj H
                  have hcz21_0 : wc.cell? ⟨gb257, 0, none⟩ = some (.int .i64 a0_0) := (blk_cell BK257.out 0).trans rfl
                  have hcz21_1 : wc.cell? ⟨gb257, 1, none⟩ = some (.int .i64 a0_1) := (blk_cell BK257.out 1).trans rfl
                  have hcz21_2 : wc.cell? ⟨gb257, 2, none⟩ = some (.int .i64 a0_2) := (blk_cell BK257.out 2).trans rfl
                  have hcz21_3 : wc.cell? ⟨gb257, 3, none⟩ = some (.int .i64 a0_3) := (blk_cell BK257.out 3).trans rfl
                  have hcz21_4 : wc.cell? ⟨gb257, 4, none⟩ = some (.bool a0_4) := (blk_cell BK257.out 4).trans rfl
                  have hcz21_5 : wc.cell? ⟨gb257, 5, none⟩ = some (.int .i64 a0_5) := (blk_cell BK257.out 5).trans rfl
                  have hcz21_6 : wc.cell? ⟨gb257, 6, none⟩ = some (.int .i64 a0_6) := (blk_cell BK257.out 6).trans rfl
                  have hcz21_7 : wc.cell? ⟨gb257, 7, none⟩ = some (.int .i64 a0_7) := (blk_cell BK257.out 7).trans rfl
                  have hcz21_8 : wc.cell? ⟨gb257, 8, none⟩ = some (.int .i64 a0_8) := (blk_cell BK257.out 8).trans rfl
                  have hcz21_9 : wc.cell? ⟨gb257, 9, none⟩ = some (.int .i64 a0_9) := (blk_cell BK257.out 9).trans rfl
                  have hcz21_10 : wc.cell? ⟨gb257, 10, none⟩ = some (.int .i64 a0_10) := (blk_cell BK257.out 10).trans rfl
                  have hcz21_11 : wc.cell? ⟨gb257, 11, none⟩ = some (.int .i64 a0_11) := (blk_cell BK257.out 11).trans rfl
                  have hcz21_12 : wc.cell? ⟨gb257, 12, none⟩ = some (.int .i64 a0_12) := (blk_cell BK257.out 12).trans rfl
                  have hcz21_13 : wc.cell? ⟨gb257, 13, none⟩ = some (.int .i64 a0_13) := (blk_cell BK257.out 13).trans rfl
                  have hfz21_0 := blk_frozen BK257.out 0
                  have hfz21_1 := blk_frozen BK257.out 1
                  have hfz21_2 := blk_frozen BK257.out 2
                  have hfz21_3 := blk_frozen BK257.out 3
                  have hfz21_4 := blk_frozen BK257.out 4
                  have hfz21_5 := blk_frozen BK257.out 5
                  have hfz21_6 := blk_frozen BK257.out 6
                  have hfz21_7 := blk_frozen BK257.out 7
                  have hfz21_8 := blk_frozen BK257.out 8
                  have hfz21_9 := blk_frozen BK257.out 9
                  have hfz21_10 := blk_frozen BK257.out 10
                  have hfz21_11 := blk_frozen BK257.out 11
                  have hfz21_12 := blk_frozen BK257.out 12
                  have hfz21_13 := blk_frozen BK257.out 13
                  go_wp2
                  go_ret
                  exact ⟨by first | rfl | (simp [errW_none, errW_some] <;> rfl) | (simp [*, errW_none, errW_some] <;> rfl), by repeat (first | (with_reducible first | exact HB.out | apply below_alloc | apply pw_below_drewN | apply below_drew1 | refine below_set ?_ GE257.out) | exact HB.out)⟩
                · replace c20 := Bool.eq_false_iff.mpr c20
                  subst c20
                  have H1 : (some false) = some r := by rw [if_neg (show ¬ (false = true) by decide)] at H; exact H
                  clear H
                  have H := H1
                  clear H1
                  obtain rfl := Option.some.inj H
                  have hcz22_0 : wc.cell? ⟨gb257, 0, none⟩ = some (.int .i64 a0_0) := (blk_cell BK257.out 0).trans rfl
                  have hcz22_1 : wc.cell? ⟨gb257, 1, none⟩ = some (.int .i64 a0_1) := (blk_cell BK257.out 1).trans rfl
                  have hcz22_2 : wc.cell? ⟨gb257, 2, none⟩ = some (.int .i64 a0_2) := (blk_cell BK257.out 2).trans rfl
                  have hcz22_3 : wc.cell? ⟨gb257, 3, none⟩ = some (.int .i64 a0_3) := (blk_cell BK257.out 3).trans rfl
                  have hcz22_4 : wc.cell? ⟨gb257, 4, none⟩ = some (.bool a0_4) := (blk_cell BK257.out 4).trans rfl
                  have hcz22_5 : wc.cell? ⟨gb257, 5, none⟩ = some (.int .i64 a0_5) := (blk_cell BK257.out 5).trans rfl
                  have hcz22_6 : wc.cell? ⟨gb257, 6, none⟩ = some (.int .i64 a0_6) := (blk_cell BK257.out 6).trans rfl
                  have hcz22_7 : wc.cell? ⟨gb257, 7, none⟩ = some (.int .i64 a0_7) := (blk_cell BK257.out 7).trans rfl
                  have hcz22_8 : wc.cell? ⟨gb257, 8, none⟩ = some (.int .i64 a0_8) := (blk_cell BK257.out 8).trans rfl
                  have hcz22_9 : wc.cell? ⟨gb257, 9, none⟩ = some (.int .i64 a0_9) := (blk_cell BK257.out 9).trans rfl
                  have hcz22_10 : wc.cell? ⟨gb257, 10, none⟩ = some (.int .i64 a0_10) := (blk_cell BK257.out 10).trans rfl
                  have hcz22_11 : wc.cell? ⟨gb257, 11, none⟩ = some (.int .i64 a0_11) := (blk_cell BK257.out 11).trans rfl
                  have hcz22_12 : wc.cell? ⟨gb257, 12, none⟩ = some (.int .i64 a0_12) := (blk_cell BK257.out 12).trans rfl
                  have hcz22_13 : wc.cell? ⟨gb257, 13, none⟩ = some (.int .i64 a0_13) := (blk_cell BK257.out 13).trans rfl
                  have hfz22_0 := blk_frozen BK257.out 0
                  have hfz22_1 := blk_frozen BK257.out 1
                  have hfz22_2 := blk_frozen BK257.out 2
                  have hfz22_3 := blk_frozen BK257.out 3
                  have hfz22_4 := blk_frozen BK257.out 4
                  have hfz22_5 := blk_frozen BK257.out 5
                  have hfz22_6 := blk_frozen BK257.out 6
                  have hfz22_7 := blk_frozen BK257.out 7
                  have hfz22_8 := blk_frozen BK257.out 8
                  have hfz22_9 := blk_frozen BK257.out 9
                  have hfz22_10 := blk_frozen BK257.out 10
                  have hfz22_11 := blk_frozen BK257.out 11
                  have hfz22_12 := blk_frozen BK257.out 12
                  have hfz22_13 := blk_frozen BK257.out 13
                  go_wp2
                  go_ret
                  exact ⟨by first | rfl | (simp [errW_none, errW_some] <;> rfl) | (simp [*, errW_none, errW_some] <;> rfl), by repeat (first | (with_reducible first | exact HB.out | apply below_alloc | apply pw_below_drewN | apply below_drew1 | refine below_set ?_ GE257.out) | exact HB.out)⟩
              · rw [if_neg c19] at H
                have c19b0 : (a0_1 == 1) = false := beq_eq_false_iff_ne.mpr c19
                have c19b1 : (a0_1 != 1) = true := bne_iff_ne.mpr c19
                by_cases c23 : a0_1 = 2
                · rw [if_pos c23] at H
                  have c23b0 : (a0_1 == 2) = true := beq_iff_eq.mpr c23
                  have c23b1 : (a0_1 != 2) = false := bne_eq_false_iff_eq.mpr c23
                  clear c23
                  by_cases c24 : x3_1 = true
                  · subst c24
                    have H1 : (some x5_14) = some r := by rw [if_pos rfl] at H; exact H
                    clear H
                    have H := H1
                    clear H1
                    obtain rfl := Option.some.inj H
                    have hcz25_0 : wc.cell? ⟨gb257, 0, none⟩ = some (.int .i64 a0_0) := (blk_cell BK257.out 0).trans rfl
                    have hcz25_1 : wc.cell? ⟨gb257, 1, none⟩ = some (.int .i64 a0_1) := (blk_cell BK257.out 1).trans rfl
                    have hcz25_2 : wc.cell? ⟨gb257, 2, none⟩ = some (.int .i64 a0_2) := (blk_cell BK257.out 2).trans rfl
                    have hcz25_3 : wc.cell? ⟨gb257, 3, none⟩ = some (.int .i64 a0_3) := (blk_cell BK257.out 3).trans rfl
                    have hcz25_4 : wc.cell? ⟨gb257, 4, none⟩ = some (.bool a0_4) := (blk_cell BK257.out 4).trans rfl
                    have hcz25_5 : wc.cell? ⟨gb257, 5, none⟩ = some (.int .i64 a0_5) := (blk_cell BK257.out 5).trans rfl
                    have hcz25_6 : wc.cell? ⟨gb257, 6, none⟩ = some (.int .i64 a0_6) := (blk_cell BK257.out 6).trans rfl
                    have hcz25_7 : wc.cell? ⟨gb257, 7, none⟩ = some (.int .i64 a0_7) := (blk_cell BK257.out 7).trans rfl
                    have hcz25_8 : wc.cell? ⟨gb257, 8, none⟩ = some (.int .i64 a0_8) := (blk_cell BK257.out 8).trans rfl
                    have hcz25_9 : wc.cell? ⟨gb257, 9, none⟩ = some (.int .i64 a0_9) := (blk_cell BK257.out 9).trans rfl
                    have hcz25_10 : wc.cell? ⟨gb257, 10, none⟩ = some (.int .i64 a0_10) := (blk_cell BK257.out 10).trans rfl
                    have hcz25_11 : wc.cell? ⟨gb257, 11, none⟩ = some (.int .i64 a0_11) := (blk_cell BK257.out 11).trans rfl
                    have hcz25_12 : wc.cell? ⟨gb257, 12, none⟩ = some (.int .i64 a0_12) := (blk_cell BK257.out 12).trans rfl
                    have hcz25_13 : wc.cell? ⟨gb257, 13, none⟩ = some (.int .i64 a0_13) := (blk_cell BK257.out 13).trans rfl
                    have hfz25_0 := blk_frozen BK257.out 0
                    have hfz25_1 := blk_frozen BK257.out 1
                    have hfz25_2 := blk_frozen BK257.out 2
                    have hfz25_3 := blk_frozen BK257.out 3
                    have hfz25_4 := blk_frozen BK257.out 4
                    have hfz25_5 := blk_frozen BK257.out 5
                    have hfz25_6 := blk_frozen BK257.out 6
                    have hfz25_7 := blk_frozen BK257.out 7
                    have hfz25_8 := blk_frozen BK257.out 8
                    have hfz25_9 := blk_frozen BK257.out 9
                    have hfz25_10 := blk_frozen BK257.out 10
                    have hfz25_11 := blk_frozen BK257.out 11
                    have hfz25_12 := blk_frozen BK257.out 12
                    have hfz25_13 := blk_frozen BK257.out 13
                    go_wp2
                    go_ret
                    exact ⟨by first | rfl | (simp [errW_none, errW_some] <;> rfl) | (simp [*, errW_none, errW_some] <;> rfl), by repeat (first | (with_reducible first | exact HB.out | apply below_alloc | apply pw_below_drewN | apply below_drew1 | refine below_set ?_ GE257.out) | exact HB.out)⟩
                  · replace c24 := Bool.eq_false_iff.mpr c24
                    subst c24
                    have H1 : (some false) = some r := by rw [if_neg (show ¬ (false = true) by decide)] at H; exact H
                    clear H
                    have H := H1
                    clear H1
                    obtain rfl := Option.some.inj H
                    have hcz26_0 : wc.cell? ⟨gb257, 0, none⟩ = some (.int .i64 a0_0) := (blk_cell BK257.out 0).trans rfl
                    have hcz26_1 : wc.cell? ⟨gb257, 1, none⟩ = some (.int .i64 a0_1) := (blk_cell BK257.out 1).trans rfl
                    have hcz26_2 : wc.cell? ⟨gb257, 2, none⟩ = some (.int .i64 a0_2) := (blk_cell BK257.out 2).trans rfl
                    have hcz26_3 : wc.cell? ⟨gb257, 3, none⟩ = some (.int .i64 a0_3) := (blk_cell BK257.out 3).trans rfl
                    have hcz26_4 : wc.cell? ⟨gb257, 4, none⟩ = some (.bool a0_4) := (blk_cell BK257.out 4).trans rfl
                    have hcz26_5 : wc.cell? ⟨gb257, 5, none⟩ = some (.int .i64 a0_5) := (blk_cell BK257.out 5).trans rfl
                    have hcz26_6 : wc.cell? ⟨gb257, 6, none⟩ = some (.int .i64 a0_6) := (blk_cell BK257.out 6).trans rfl
                    have hcz26_7 : wc.cell? ⟨gb257, 7, none⟩ = some (.int .i64 a0_7) := (blk_cell BK257.out 7).trans rfl
                    have hcz26_8 : wc.cell? ⟨gb257, 8, none⟩ = some (.int .i64 a0_8) := (blk_cell BK257.out 8).trans rfl
                    have hcz26_9 : wc.cell? ⟨gb257, 9, none⟩ = some (.int .i64 a0_9) := (blk_cell BK257.out 9).trans rfl
                    have hcz26_10 : wc.cell? ⟨gb257, 10, none⟩ = some (.int .i64 a0_10) := (blk_cell BK257.out 10).trans rfl
                    have hcz26_11 : wc.cell? ⟨gb257, 11, none⟩ = some (.int .i64 a0_11) := (blk_cell BK257.out 11).trans rfl
                    have hcz26_12 : wc.cell? ⟨gb257, 12, none⟩ = some (.int .i64 a0_12) := (blk_cell BK257.out 12).trans rfl
                    have hcz26_13 : wc.cell? ⟨gb257, 13, none⟩ = some (.int .i64 a0_13) := (blk_cell BK257.out 13).trans rfl
                    have hfz26_0 := blk_frozen BK257.out 0
                    have hfz26_1 := blk_frozen BK257.out 1
                    have hfz26_2 := blk_frozen BK257.out 2
                    have hfz26_3 := blk_frozen BK257.out 3
                    have hfz26_4 := blk_frozen BK257.out 4
                    have hfz26_5 := blk_frozen BK257.out 5
                    have hfz26_6 := blk_frozen BK257.out 6
                    have hfz26_7 := blk_frozen BK257.out 7
                    have hfz26_8 := blk_frozen BK257.out 8
                    have hfz26_9 := blk_frozen BK257.out 9
                    have hfz26_10 := blk_frozen BK257.out 10
                    have hfz26_11 := blk_frozen BK257.out 11
                    have hfz26_12 := blk_frozen BK257.out 12
                    have hfz26_13 := blk_frozen BK257.out 13
                    go_wp2
                    go_ret
                    exact ⟨by first | rfl | (simp [errW_none, errW_some] <;> rfl) | (simp [*, errW_none, errW_some] <;> rfl), by repeat (first | (with_reducible first | exact HB.out | apply below_alloc | apply pw_below_drewN | apply below_drew1 | refine below_set ?_ GE257.out) | exact HB.out)⟩
                · rw [if_neg c23] at H
                  have c23b0 : (a0_1 == 2) = false := beq_eq_false_iff_ne.mpr c23
                  have c23b1 : (a0_1 != 2) = true := bne_iff_ne.mpr c23
                  by_cases c27 : x3_1 = true
                  · subst c27
                    have H1 : (if x4_8 = true then (some (a0_7 == 0)) else (some false)) = some r := by rw [if_pos rfl] at H; exact H
                    clear H
                    have H := H1
                    clear H1
                    by_cases c28 : x4_8 = true
                    · subst c28
                      have H1 : (some (a0_7 == 0)) = some r := by rw [if_pos rfl] at H; exact H
                      clear H
                      have H := H1
                      clear H1
                      obtain rfl := Option.some.inj H
                      have hcz29_0 : wc.cell? ⟨gb257, 0, none⟩ = some (.int .i64 a0_0) := (blk_cell BK257.out 0).trans rfl
                      have hcz29_1 : wc.cell? ⟨gb257, 1, none⟩ = some (.int .i64 a0_1) := (blk_cell BK257.out 1).trans rfl
                      have hcz29_2 : wc.cell? ⟨gb257, 2, none⟩ = some (.int .i64 a0_2) := (blk_cell BK257.out 2).trans rfl
                      have hcz29_3 : wc.cell? ⟨gb257, 3, none⟩ = some (.int .i64 a0_3) := (blk_cell BK257.out 3).trans rfl
                      have hcz29_4 : wc.cell? ⟨gb257, 4, none⟩ = some (.bool a0_4) := (blk_cell BK257.out 4).trans rfl
                      have hcz29_5 : wc.cell? ⟨gb257, 5, none⟩ = some (.int .i64 a0_5) := (blk_cell BK257.out 5).trans rfl
                      have hcz29_6 : wc.cell? ⟨gb257, 6, none⟩ = some (.int .i64 a0_6) := (blk_cell BK257.out 6).trans rfl
                      have hcz29_7 : wc.cell? ⟨gb257, 7, none⟩ = some (.int .i64 a0_7) := (blk_cell BK257.out 7).trans rfl
                      have hcz29_8 : wc.cell? ⟨gb257, 8, none⟩ = some (.int .i64 a0_8) := (blk_cell BK257.out 8).trans rfl
                      have hcz29_9 : wc.cell? ⟨gb257, 9, none⟩ = some (.int .i64 a0_9) := (blk_cell BK257.out 9).trans rfl
                      have hcz29_10 : wc.cell? ⟨gb257, 10, none⟩ = some (.int .i64 a0_10) := (blk_cell BK257.out 10).trans rfl
                      have hcz29_11 : wc.cell? ⟨gb257, 11, none⟩ = some (.int .i64 a0_11) := (blk_cell BK257.out 11).trans rfl
                      have hcz29_12 : wc.cell? ⟨gb257, 12, none⟩ = some (.int .i64 a0_12) := (blk_cell BK257.out 12).trans rfl
                      have hcz29_13 : wc.cell? ⟨gb257, 13, none⟩ = some (.int .i64 a0_13) := (blk_cell BK257.out 13).trans rfl
                      have hfz29_0 := blk_frozen BK257.out 0
                      have hfz29_1 := blk_frozen BK257.out 1
                      have hfz29_2 := blk_frozen BK257.out 2
                      have hfz29_3 := blk_frozen BK257.out 3
                      have hfz29_4 := blk_frozen BK257.out 4
                      have hfz29_5 := blk_frozen BK257.out 5
                      have hfz29_6 := blk_frozen BK257.out 6
                      have hfz29_7 := blk_frozen BK257.out 7
                      have hfz29_8 := blk_frozen BK257.out 8
                      have hfz29_9 := blk_frozen BK257.out 9
                      have hfz29_10 := blk_frozen BK257.out 10
                      have hfz29_11 := blk_frozen BK257.out 11
                      have hfz29_12 := blk_frozen BK257.out 12
                      have hfz29_13 := blk_frozen BK257.out 13
                      go_wp2
                      go_ret
                      exact ⟨by first | rfl | (simp [errW_none, errW_some] <;> rfl) | (simp [*, errW_none, errW_some] <;> rfl), by repeat (first | (with_reducible first | exact HB.out | apply below_alloc | apply pw_below_drewN | apply below_drew1 | refine below_set ?_ GE257.out) | exact HB.out)⟩
                    · replace c28 := Bool.eq_false_iff.mpr c28
                      subst c28
                      have H1 : (some false) = some r := by rw [if_neg (show ¬ (false = true) by decide)] at H; exact H
                      clear H
                      have H := H1
                      clear H1
                      obtain rfl := Option.some.inj H
                      have hcz30_0 : wc.cell? ⟨gb257, 0, none⟩ = some (.int .i64 a0_0) := (blk_cell BK257.out 0).trans rfl
                      have hcz30_1 : wc.cell? ⟨gb257, 1, none⟩ = some (.int .i64 a0_1) := (blk_cell BK257.out 1).trans rfl
                      have hcz30_2 : wc.cell? ⟨gb257, 2, none⟩ = some (.int .i64 a0_2) := (blk_cell BK257.out 2).trans rfl
                      have hcz30_3 : wc.cell? ⟨gb257, 3, none⟩ = some (.int .i64 a0_3) := (blk_cell BK257.out 3).trans rfl
                      have hcz30_4 : wc.cell? ⟨gb257, 4, none⟩ = some (.bool a0_4) := (blk_cell BK257.out 4).trans rfl
                      have hcz30_5 : wc.cell? ⟨gb257, 5, none⟩ = some (.int .i64 a0_5) := (blk_cell BK257.out 5).trans rfl
                      have hcz30_6 : wc.cell? ⟨gb257, 6, none⟩ = some (.int .i64 a0_6) := (blk_cell BK257.out 6).trans rfl
                      have hcz30_7 : wc.cell? ⟨gb257, 7, none⟩ = some (.int .i64 a0_7) := (blk_cell BK257.out 7).trans rfl
                      have hcz30_8 : wc.cell? ⟨gb257, 8, none⟩ = some (.int .i64 a0_8) := (blk_cell BK257.out 8).trans rfl
                      have hcz30_9 : wc.cell? ⟨gb257, 9, none⟩ = some (.int .i64 a0_9) := (blk_cell BK257.out 9).trans rfl
                      have hcz30_10 : wc.cell? ⟨gb257, 10, none⟩ = some (.int .i64 a0_10) := (blk_cell BK257.out 10).trans rfl
                      have hcz30_11 : wc.cell? ⟨gb257, 11, none⟩ = some (.int .i64 a0_11) := (blk_cell BK257.out 11).trans rfl
                      have hcz30_12 : wc.cell? ⟨gb257, 12, none⟩ = some (.int .i64 a0_12) := (blk_cell BK257.out 12).trans rfl
                      have hcz30_13 : wc.cell? ⟨gb257, 13, none⟩ = some (.int .i64 a0_13) := (blk_cell BK257.out 13).trans rfl
                      have hfz30_0 := blk_frozen BK257.out 0
                      have hfz30_1 := blk_frozen BK257.out 1
                      have hfz30_2 := blk_frozen BK257.out 2
                      have hfz30_3 := blk_frozen BK257.out 3
                      have hfz30_4 := blk_frozen BK257.out 4
                      have hfz30_5 := blk_frozen BK257.out 5
                      have hfz30_6 := blk_frozen BK257.out 6
                      have hfz30_7 := blk_frozen BK257.out 7
                      have hfz30_8 := blk_frozen BK257.out 8
                      have hfz30_9 := blk_frozen BK257.out 9
                      have hfz30_10 := blk_frozen BK257.out 10
                      have hfz30_11 := blk_frozen BK257.out 11
                      have hfz30_12 := blk_frozen BK257.out 12
                      have hfz30_13 := blk_frozen BK257.out 13
                      go_wp2
                      go_ret
                      exact ⟨by first | rfl | (simp [errW_none, errW_some] <;> rfl) | (simp [*, errW_none, errW_some] <;> rfl), by repeat (first | (with_reducible first | exact HB.out | apply below_alloc | apply pw_below_drewN | apply below_drew1 | refine below_set ?_ GE257.out) | exact HB.out)⟩
                  · replace c27 := Bool.eq_false_iff.mpr c27
                    subst c27
                    have H1 : (some false) = some r := by rw [if_neg (show ¬ (false = true) by decide)] at H; exact H
                    clear H
                    have H := H1
                    clear H1
                    obtain rfl := Option.some.inj H
                    have hcz31_0 : wc.cell? ⟨gb257, 0, none⟩ = some (.int .i64 a0_0) := (blk_cell BK257.out 0).trans rfl
                    have hcz31_1 : wc.cell? ⟨gb257, 1, none⟩ = some (.int .i64 a0_1) := (blk_cell BK257.out 1).trans rfl
                    have hcz31_2 : wc.cell? ⟨gb257, 2, none⟩ = some (.int .i64 a0_2) := (blk_cell BK257.out 2).trans rfl
                    have hcz31_3 : wc.cell? ⟨gb257, 3, none⟩ = some (.int .i64 a0_3) := (blk_cell BK257.out 3).trans rfl
                    have hcz31_4 : wc.cell? ⟨gb257, 4, none⟩ = some (.bool a0_4) := (blk_cell BK257.out 4).trans rfl
                    have hcz31_5 : wc.cell? ⟨gb257, 5, none⟩ = some (.int .i64 a0_5) := (blk_cell BK257.out 5).trans rfl
                    have hcz31_6 : wc.cell? ⟨gb257, 6, none⟩ = some (.int .i64 a0_6) := (blk_cell BK257.out 6).trans rfl
                    have hcz31_7 : wc.cell? ⟨gb257, 7, none⟩ = some (.int .i64 a0_7) := (blk_cell BK257.out 7).trans rfl
                    have hcz31_8 : wc.cell? ⟨gb257, 8, none⟩ = some (.int .i64 a0_8) := (blk_cell BK257.out 8).trans rfl
                    have hcz31_9 : wc.cell? ⟨gb257, 9, none⟩ = some (.int .i64 a0_9) := (blk_cell BK257.out 9).trans rfl
                    have hcz31_10 : wc.cell? ⟨gb257, 10, none⟩ = some (.int .i64 a0_10) := (blk_cell BK257.out 10).trans rfl
                    have hcz31_11 : wc.cell? ⟨gb257, 11, none⟩ = some (.int .i64 a0_11) := (blk_cell BK257.out 11).trans rfl
                    have hcz31_12 : wc.cell? ⟨gb257, 12, none⟩ = some (.int .i64 a0_12) := (blk_cell BK257.out 12).trans rfl
                    have hcz31_13 : wc.cell? ⟨gb257, 13, none⟩ = some (.int .i64 a0_13) := (blk_cell BK257.out 13).trans rfl
                    have hfz31_0 := blk_frozen BK257.out 0
                    have hfz31_1 := blk_frozen BK257.out 1
                    have hfz31_2 := blk_frozen BK257.out 2
                    have hfz31_3 := blk_frozen BK257.out 3
                    have hfz31_4 := blk_frozen BK257.out 4
                    have hfz31_5 := blk_frozen BK257.out 5
                    have hfz31_6 := blk_frozen BK257.out 6
                    have hfz31_7 := blk_frozen BK257.out 7
                    have hfz31_8 := blk_frozen BK257.out 8
                    have hfz31_9 := blk_frozen BK257.out 9
                    have hfz31_10 := blk_frozen BK257.out 10
                    have hfz31_11 := blk_frozen BK257.out 11
                    have hfz31_12 := blk_frozen BK257.out 12
                    have hfz31_13 := blk_frozen BK257.out 13
                    go_wp2
                    go_ret
                    exact ⟨by first | rfl | (simp [errW_none, errW_some] <;> rfl) | (simp [*, errW_none, errW_some] <;> rfl), by repeat (first | (with_reducible first | exact HB.out | apply below_alloc | apply pw_below_drewN | apply below_drew1 | refine below_set ?_ GE257.out) | exact HB.out)⟩

end Go.Proofs.Ytbcpjbgcmkifiaa.Print
