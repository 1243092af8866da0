/- Go functions as plain functions, and that the Go code answers as these. Printed by wip/patch.py. -/
import Derived.Test.YthmcgbjfcjbhkaaPrint0
import Derived.Test.YthmcgbjfcjbhkaaPrintImplWaitAt
import Derived.Test.YthmcgbjfcjbhkaaPrintSlicesIndexIntInt
import Derived.Test.YthmcgbjfcjbhkaaPrintSpecL8DrawBoth
namespace Go.Proofs.Ythmcgbjfcjbhkaa.Print
open Go.RowKit Go.Proofs.Ythmcgbjfcjbhkaa.Base Go.Proofs.YthmcgbjfcjbhkaaW.PrintWords Go.Proofs.YthmcgbjfcjbhkaaW.PrintLast Go.Proofs.YthmcgbjfcjbhkaaW.PrintMore
attribute [local go_sem] max2_int min2_int max_two min_two max_three min_three max_four min_four
set_option linter.all false

/-! ### impl_LocksOk: function 16 -/
mutual
def impl_LocksOk.l0 : Nat → List (S41) → List Int → List (S41) → Int → Int → Option (Bool)
  | 0, _, _, _, _, _ => none
  | k + 1, x0, x3, x13, x14, x15 => if x15 < x14 then (if 0 ≤ x15 then (if x15 < (x13.length : Int) then ((impl_in.f ((rd_T41 x13 x15).f0) 0 1000).bind fun t106 => (if t106 = true then (if ((rd_T41 x13 x15).f0) = 0 then (impl_LocksOk.j1 k x0 x3 x13 x14 x15 (decide ((((rd_T41 x13 x15).f1).length : Int) > 0)) ((rd_T41 x13 x15).f0) ((rd_T41 x13 x15).f1)) else (impl_LocksOk.j1 k x0 x3 x13 x14 x15 false ((rd_T41 x13 x15).f0) ((rd_T41 x13 x15).f1))) else (impl_LocksOk.j1 k x0 x3 x13 x14 x15 true ((rd_T41 x13 x15).f0) ((rd_T41 x13 x15).f1)))) else (none)) else (none)) else (impl_LocksOk.l2 k x0 x3 (x3.length : Int) 0)
def impl_LocksOk.j1 : Nat → List (S41) → List Int → List (S41) → Int → Int → Bool → Int → List Int → Option (Bool)
  | 0, _, _, _, _, _, _, _, _ => none
  | k + 1, x0, x3, x13, x14, x15, x33, x106000, x106001 => if x33 = true then (some false) else (impl_LocksOk.l1 k x0 x3 x13 x14 x15 x106001 (x106001.length : Int) 0)
def impl_LocksOk.l1 : Nat → List (S41) → List Int → List (S41) → Int → Int → List Int → Int → Int → Option (Bool)
  | 0, _, _, _, _, _, _, _, _ => none
  | k + 1, x0, x3, x13, x14, x15, x35, x36, x37 => if x37 < x36 then (if 0 ≤ x37 then (if x37 < (x35.length : Int) then ((impl_isNo.f (rd x35 x37)).bind fun t108 => (if t108 = true then ((slices_Contains_int_int.f k x3 (rd x35 x37)).bind fun t109 => (if t109 = true then (some false) else (if x3.length < 17592186044416 then (impl_LocksOk.l1 k x0 (x3 ++ [rd x35 x37]) x13 x14 x15 x35 x36 (wrap64 (x37 + 1))) else (none)))) else (some false))) else (none)) else (none)) else (impl_LocksOk.l0 k x0 x3 x13 x14 (wrap64 (x15 + 1)))
def impl_LocksOk.l2 : Nat → List (S41) → List Int → Int → Int → Option (Bool)
  | 0, _, _, _, _ => none
  | k + 1, x0, x55, x56, x57 => if x57 < x56 then (if 0 ≤ x57 then (if x57 < (x55.length : Int) then ((impl_chain.f k x0 (rd x55 x57)).bind fun bt114 => (if bt114.2 = true then (impl_LocksOk.l2 k x0 x55 x56 (wrap64 (x57 + 1))) else (some false))) else (none)) else (none)) else (some (decide ((x0.length : Int) ≤ 5)))
end
def impl_LocksOk.f (k : Nat) (l0 : List (S41)) : Option (Bool) := impl_LocksOk.l0 k l0 (([] : List Int)) l0 (l0.length : Int) 0
theorem impl_LocksOk.mono_l : ∀ k, (∀ y0 y1 y2 y3 y4, LeO (impl_LocksOk.l0 k y0 y1 y2 y3 y4) (impl_LocksOk.l0 (k + 1) y0 y1 y2 y3 y4)) ∧ (∀ y0 y1 y2 y3 y4 y5 y6 y7, LeO (impl_LocksOk.j1 k y0 y1 y2 y3 y4 y5 y6 y7) (impl_LocksOk.j1 (k + 1) y0 y1 y2 y3 y4 y5 y6 y7)) ∧ (∀ y0 y1 y2 y3 y4 y5 y6 y7, LeO (impl_LocksOk.l1 k y0 y1 y2 y3 y4 y5 y6 y7) (impl_LocksOk.l1 (k + 1) y0 y1 y2 y3 y4 y5 y6 y7)) ∧ (∀ y0 y1 y2 y3, LeO (impl_LocksOk.l2 k y0 y1 y2 y3) (impl_LocksOk.l2 (k + 1) y0 y1 y2 y3))
  | 0 => ⟨fun _ _ _ _ _ r h => by simp [impl_LocksOk.l0] at h, fun _ _ _ _ _ _ _ _ r h => by simp [impl_LocksOk.j1] at h, fun _ _ _ _ _ _ _ _ r h => by simp [impl_LocksOk.l1] at h, fun _ _ _ _ r h => by simp [impl_LocksOk.l2] at h⟩
  | k + 1 => by
    obtain ⟨ih0, ih1, ih2, ih3⟩ := impl_LocksOk.mono_l k
    refine ⟨?_, ?_, ?_, ?_⟩
    · intro y0 y1 y2 y3 y4
      unfold impl_LocksOk.l0
      repeat' first
      | (with_reducible exact ih0 _ _ _ _ _)
      | (with_reducible exact ih1 _ _ _ _ _ _ _ _)
      | (with_reducible exact ih2 _ _ _ _ _ _ _ _)
      | (with_reducible exact ih3 _ _ _ _)
      | (with_reducible exact impl_chain.mono _ _ _)
      | (with_reducible exact slices_Contains_int_int.mono _ _ _)
      | (with_reducible exact LeO.refl _)
      | (with_reducible exact LeO.none _)
      | (with_reducible refine LeO.ite ?_ ?_)
      | (with_reducible refine LeO.bind ?_ (fun _ => ?_))
    · intro y0 y1 y2 y3 y4 y5 y6 y7
      unfold impl_LocksOk.j1
      repeat' first
      | (with_reducible exact ih0 _ _ _ _ _)
      | (with_reducible exact ih1 _ _ _ _ _ _ _ _)
      | (with_reducible exact ih2 _ _ _ _ _ _ _ _)
      | (with_reducible exact ih3 _ _ _ _)
      | (with_reducible exact impl_chain.mono _ _ _)
      | (with_reducible exact slices_Contains_int_int.mono _ _ _)
      | (with_reducible exact LeO.refl _)
      | (with_reducible exact LeO.none _)
      | (with_reducible refine LeO.ite ?_ ?_)
      | (with_reducible refine LeO.bind ?_ (fun _ => ?_))
    · intro y0 y1 y2 y3 y4 y5 y6 y7
      unfold impl_LocksOk.l1
      repeat' first
      | (with_reducible exact ih0 _ _ _ _ _)
      | (with_reducible exact ih1 _ _ _ _ _ _ _ _)
      | (with_reducible exact ih2 _ _ _ _ _ _ _ _)
      | (with_reducible exact ih3 _ _ _ _)
      | (with_reducible exact impl_chain.mono _ _ _)
      | (with_reducible exact slices_Contains_int_int.mono _ _ _)
      | (with_reducible exact LeO.refl _)
      | (with_reducible exact LeO.none _)
      | (with_reducible refine LeO.ite ?_ ?_)
      | (with_reducible refine LeO.bind ?_ (fun _ => ?_))
    intro y0 y1 y2 y3
    unfold impl_LocksOk.l2
    repeat' first
    | (with_reducible exact ih0 _ _ _ _ _)
    | (with_reducible exact ih1 _ _ _ _ _ _ _ _)
    | (with_reducible exact ih2 _ _ _ _ _ _ _ _)
    | (with_reducible exact ih3 _ _ _ _)
    | (with_reducible exact impl_chain.mono _ _ _)
    | (with_reducible exact slices_Contains_int_int.mono _ _ _)
    | (with_reducible exact LeO.refl _)
    | (with_reducible exact LeO.none _)
    | (with_reducible refine LeO.ite ?_ ?_)
    | (with_reducible refine LeO.bind ?_ (fun _ => ?_))
theorem impl_LocksOk.mono : ∀ a0 k, LeO (impl_LocksOk.f k a0) (impl_LocksOk.f (k + 1) a0) := by
  intro a0 k
  obtain ⟨ih0, ih1, ih2, ih3⟩ := impl_LocksOk.mono_l k
  unfold impl_LocksOk.f
  repeat' first
      | (with_reducible exact ih0 _ _ _ _ _)
      | (with_reducible exact ih1 _ _ _ _ _ _ _ _)
      | (with_reducible exact ih2 _ _ _ _ _ _ _ _)
      | (with_reducible exact ih3 _ _ _ _)
      | (with_reducible exact impl_chain.mono _ _ _)
      | (with_reducible exact slices_Contains_int_int.mono _ _ _)
      | (with_reducible exact LeO.refl _)
      | (with_reducible exact LeO.none _)
      | (with_reducible refine LeO.ite ?_ ?_)
      | (with_reducible refine LeO.bind ?_ (fun _ => ?_))
set_option maxHeartbeats 8000000 in
set_option maxRecDepth 100000 in
theorem impl_LocksOk.calls (k : Nat) (A0 : Option Addr) (c0 : Nat) (l0 : List (S41)) (r : Bool) (w : World) (hr0 : Kd.C k41 w A0 l0.length l0) (hc0 : l0.length ≤ c0) (h : impl_LocksOk.f k l0 = some r) :
    Calls Try.prog 16 #[.slice A0 l0.length c0] w fun e w' => e = .returned (.bool r) ∧ Below w.heap.size w w' := by
  have hu41 := Try.underlying41
  have HR0 := Aside0.mk hr0
  have HC0 := Aside0.mk hc0
  clear hr0 hc0
  have HB := aM (Below.refl w.heap.size w)
  have H : (impl_LocksOk.l0 k l0 (([] : List Int)) l0 (l0.length : Int) 0) = some r := h
  clear h
  obtain ⟨y101, hy101⟩ : ∃ y_ : List Int, y_ = (([] : List Int)) := ⟨_, rfl⟩
  replace H : (impl_LocksOk.l0 k l0 y101 l0 (l0.length : Int) 0) = some r := by first | (rw [hy101]; with_reducible exact H) | (have H2_ := (Option.bind_some _ _).symm.trans H; rw [hy101]; with_reducible exact H2_) | (have H2_ := (Option.bind_some _ _).symm.trans H; with_reducible exact H2_) | with_reducible exact H | (rw [hy101]; exact H) | exact H
  have Ny101 := Aside0.mk hy101
  clear hy101
  have H' := Aside0.mk H
  clear H
  go_enter Try.func16, Try.ntmps16
  go_wp2_with (first | ((with_reducible refine gate_dst (N := 12) rfl ?_); (try (refine gate_guard (by rfl) ?_; dsimp only)); refine Kd.R_lit (Kd.int .i64) _ 3 ?hg (N := 12) ?hd (xs := ([] : List Int)) (inner := []) (ok := fun _ => True) (okp := fun _ => True) ?hr ?hp (fun _ hk => hk) trivial (Below.refl _ _) (Nat.le_refl _) (by simp) ?_; (case hd => rfl); (case hg => rfl); (case hr => first | (go_simp; done) | (go_simp; rfl)); (case hp => exact (Reps.none _ _)); intro v102 w2 ho3 hb hg_ hnew_; clear hg_ hnew_; (first | rw [← Ny101.out] at ho3 | (simp only [Int.reduceToNat] at ho3; rw [← Ny101.out] at ho3)); have n0_ := aM (Kd.R_lower ho3 (below_size (bq HB))); have n1_ := aM (below_step (bq HB) hb); clear HB; have HO103 := n0_; have HB := n1_; clear n0_ n1_; clear hb ho3))
  go_loopg [3, 15] k (fun kq v3 v15 w' => ∃ (x3_1 : List Int) (x15_1 : Int), v15 = .int .i64 x15_1 ∧ Aside0 (impl_LocksOk.l0 kq l0 x3_1 l0 (l0.length : Int) x15_1 = some r) ∧ Aside0 (kq ≤ k) ∧ Aside0 (Kd.R (Kd.int .i64) 3 w' w.heap.size (fun _ => True) v3 x3_1) ∧ Aside0 (Below w.heap.size w w'))
  case atStart => exact ⟨(y101), (0), sQ, H', ⟨Nat.le_refl _⟩, ⟨rq HO103⟩, ⟨bq HB⟩⟩
  case round =>
    clear H'
    try clear c1
    try clear p2
    obtain ⟨x3_1, x15_1, rfl, HA, HK1, HO_3, HB⟩ := hrel
    cases gk with
    | zero => exact absurd HA.out (by simp [impl_LocksOk.l0])
    | succ k1 =>
      have H := HA.out
      clear HA
      simp only [impl_LocksOk.l0] at H
      by_cases c4 : x15_1 < (l0.length : Int)
      · rw [if_pos c4] at H
        have c4b0 : decide (x15_1 < (l0.length : Int)) = true := decide_eq_true c4
        clear c4
        by_cases c5 : 0 ≤ x15_1
        · rw [if_pos c5] at H
          have c5b0 : decide (0 ≤ x15_1) = true := decide_eq_true c5
          clear c5
          by_cases c6 : x15_1 < (l0.length : Int)
          · rw [if_pos c6] at H
            have c6b0 : decide (x15_1 < (l0.length : Int)) = true := decide_eq_true c6
            clear c6
            have HC7 := Aside0.mk H
            clear H
            have p104 : 0 ≤ (x15_1 : Int) := dA
            have q104 : x15_1 < (l0.length : Int) := dA
            obtain ⟨ad104, A104_1, c104_1, e104, hx104_0, hx104_1, hl104_1, hi104_1⟩ := at_T41 HR0.out x15_1 p104 q104
            cases e104
            replace hx104_0 := (HB.out.cell (World.block_lt_of_cell? w _ hx104_0)).trans hx104_0
            replace hx104_1 := (HB.out.cell (World.block_lt_of_cell? w _ hx104_1)).trans hx104_1
            have HR104_1 := Aside0.mk hi104_1
            have HC104_1 := Aside0.mk hl104_1
            clear hi104_1 hl104_1
            replace p104 := eq_true p104
            replace q104 := eq_true q104
            go_upto_region 5 with (first | ((with_reducible refine gate_dst (N := 5) rfl ?_); (try (refine gate_guard (by rfl) ?_; dsimp only)); refine bE (N := 5) (cs := #[.int .i64 0, .slice none 0 0]) (t := 41) ?_; intro gb105 hg w8 hbox hb; have n0_ := aM (Kd.R_below (rq HO_3) hb); have n1_ := aM (below_step (bq HB) hb); have n2_ := aM (hbox); have n3_ := aM ((by rw [hg]; exact (below_size (bq HB)) : w.heap.size ≤ gb105)); have n4_ := n3_; clear HO_3 HB; have HO_3 := n0_; have HB := n1_; have BK105 := n2_; have GW105 := n3_; have GE105 := n4_; clear n0_ n1_ n2_ n3_ n4_; clear hb hbox hg; obtain ⟨_,_⟩ := cz2 BK105.out; have hfz9_0 := blk_frozen BK105.out))
            (try simp only [Act.put, tA, tB, tC])
            go_cut [33] (fun v33 wc => ∃ (kq : Nat) (x33_6 : Bool), v33 = .bool x33_6 ∧ Aside0 (impl_LocksOk.j1 kq l0 x3_1 l0 (l0.length : Int) x15_1 x33_6 ((rd_T41 l0 x15_1).f0) ((rd_T41 l0 x15_1).f1) = some r) ∧ Aside0 (kq ≤ k1) ∧ Aside0 (Kd.R (Kd.int .i64) 3 wc w.heap.size (fun _ => True) u3 x3_1) ∧ Aside0 (wc.heap[gb105]? = some (.cells #[.int .i64 ((rd_T41 l0 x15_1).f0), (.slice A104_1 ((rd_T41 l0 x15_1).f1).length c104_1)] 41 (0, 0))) ∧ Aside0 (Below w.heap.size w wc))
            case first =>
              have H := HC7.out
              clear HC7
              replace H := Option.bind_eq_some_iff.mp H
              obtain ⟨t106, A100, H⟩ := H
              replace H : (if t106 = true then (if ((rd_T41 l0 x15_1).f0) = 0 then (impl_LocksOk.j1 k1 l0 x3_1 l0 (l0.length : Int) x15_1 (decide ((((rd_T41 l0 x15_1).f1).length : Int) > 0)) ((rd_T41 l0 x15_1).f0) ((rd_T41 l0 x15_1).f1)) else (impl_LocksOk.j1 k1 l0 x3_1 l0 (l0.length : Int) x15_1 false ((rd_T41 l0 x15_1).f0) ((rd_T41 l0 x15_1).f1))) else (impl_LocksOk.j1 k1 l0 x3_1 l0 (l0.length : Int) x15_1 true ((rd_T41 l0 x15_1).f0) ((rd_T41 l0 x15_1).f1))) = some r := H
              have A10 := Aside0.mk A100
              clear A100
              by_cases c11 : t106 = true
              · subst c11
                have H1 : (if ((rd_T41 l0 x15_1).f0) = 0 then (impl_LocksOk.j1 k1 l0 x3_1 l0 (l0.length : Int) x15_1 (decide ((((rd_T41 l0 x15_1).f1).length : Int) > 0)) ((rd_T41 l0 x15_1).f0) ((rd_T41 l0 x15_1).f1)) else (impl_LocksOk.j1 k1 l0 x3_1 l0 (l0.length : Int) x15_1 false ((rd_T41 l0 x15_1).f0) ((rd_T41 l0 x15_1).f1))) = some r := by rw [if_pos rfl] at H; exact H
                clear H
                have H := H1
                clear H1
                by_cases c12 : ((rd_T41 l0 x15_1).f0) = 0
                · rw [if_pos c12] at H
                  have c12b0 : (((rd_T41 l0 x15_1).f0) == 0) = true := beq_iff_eq.mpr c12
                  have c12b1 : (((rd_T41 l0 x15_1).f0) != 0) = false := bne_eq_false_iff_eq.mpr c12
                  clear c12
                  (first | rw [c12b0] | (simp only [i64_w, i32_w]; rw [c12b0]) | skip)
                  have H' := Aside0.mk H
                  clear H
                  obtain ⟨_,_⟩ := cz2 BK105.out
                  have hfz13_0 := blk_frozen BK105.out
                  go_wp2_with (first | ((with_reducible refine gate_callee (f := 33) rfl ?_); refine gL (some 21) Try.func33 #[.int .i64 ((rd_T41 l0 x15_1).f0), .int .i64 0, .int .i64 1000] ?_; (with_reducible refine (impl_in.calls ((rd_T41 l0 x15_1).f0) 0 1000 true _ A10.out).mono ?_); rintro e w' ⟨rfl, ⟨nd, rfl⟩⟩; refine ⟨_, rfl, ?_⟩))
                  go_meet
                  case rel => exact ⟨_, (decide ((((rd_T41 l0 x15_1).f1).length : Int) > 0)), sQ, H', ⟨by have := HK1.out; first | omega | exact Nat.le_refl _⟩, ⟨by (with_reducible repeat (first | apply Kd.R_alloc | apply Kd.R_drewN | apply Kd.R_drew)); exact Kd.R_mono (Kd.R_far (p := ⟨gb105, 1, none⟩) (Kd.R_far (p := ⟨gb105, 0, none⟩) (Kd.R_types HO_3.out BK105.out (by decide)) (fun _ hk => hk.2) (.int .i64 ((rd_T41 l0 x15_1).f0))) (fun _ hk => hk.2) (.slice A104_1 ((rd_T41 l0 x15_1).f1).length c104_1)) (fun _ hk => trivial)⟩, ⟨by (with_reducible repeat (first | apply bkD | apply bkd | apply bkA)); refine blk_put (cs := #[.int .i64 ((rd_T41 l0 x15_1).f0), .slice none 0 0]) ?_ 1 _ rfl; (with_reducible repeat (first | apply bkD | apply bkd | apply bkA)); refine blk_put (cs := #[.int .i64 0, .slice none 0 0]) ?_ 0 _ rfl; (with_reducible repeat (first | apply bkD | apply bkd | apply bkA)); exact BK105.out⟩, ⟨bq HB⟩⟩
                rw [if_neg c12] at H
                have c12b0 : (((rd_T41 l0 x15_1).f0) == 0) = false := beq_eq_false_iff_ne.mpr c12
                have c12b1 : (((rd_T41 l0 x15_1).f0) != 0) = true := bne_iff_ne.mpr c12
                (first | rw [c12b0] | (simp only [i64_w, i32_w]; rw [c12b0]) | skip)
                have H' := Aside0.mk H
                clear H
                obtain ⟨_,_⟩ := cz2 BK105.out
                have hfz14_0 := blk_frozen BK105.out
                go_wp2_with (first | ((with_reducible refine gate_callee (f := 33) rfl ?_); refine gL (some 21) Try.func33 #[.int .i64 ((rd_T41 l0 x15_1).f0), .int .i64 0, .int .i64 1000] ?_; (with_reducible refine (impl_in.calls ((rd_T41 l0 x15_1).f0) 0 1000 true _ A10.out).mono ?_); rintro e w' ⟨rfl, ⟨nd, rfl⟩⟩; refine ⟨_, rfl, ?_⟩))
                go_meet
                case rel => exact ⟨_, (false), sQ, H', ⟨by have := HK1.out; first | omega | exact Nat.le_refl _⟩, ⟨by (with_reducible repeat (first | apply Kd.R_alloc | apply Kd.R_drewN | apply Kd.R_drew)); exact Kd.R_mono (Kd.R_far (p := ⟨gb105, 1, none⟩) (Kd.R_far (p := ⟨gb105, 0, none⟩) (Kd.R_types HO_3.out BK105.out (by decide)) (fun _ hk => hk.2) (.int .i64 ((rd_T41 l0 x15_1).f0))) (fun _ hk => hk.2) (.slice A104_1 ((rd_T41 l0 x15_1).f1).length c104_1)) (fun _ hk => trivial)⟩, ⟨by (with_reducible repeat (first | apply bkD | apply bkd | apply bkA)); refine blk_put (cs := #[.int .i64 ((rd_T41 l0 x15_1).f0), .slice none 0 0]) ?_ 1 _ rfl; (with_reducible repeat (first | apply bkD | apply bkd | apply bkA)); refine blk_put (cs := #[.int .i64 0, .slice none 0 0]) ?_ 0 _ rfl; (with_reducible repeat (first | apply bkD | apply bkd | apply bkA)); exact BK105.out⟩, ⟨bq HB⟩⟩
              replace c11 := Bool.eq_false_iff.mpr c11
              subst c11
              have H1 : (impl_LocksOk.j1 k1 l0 x3_1 l0 (l0.length : Int) x15_1 true ((rd_T41 l0 x15_1).f0) ((rd_T41 l0 x15_1).f1)) = some r := by rw [if_neg (show ¬ (false = true) by decide)] at H; exact H
              clear H
              have H := H1
              clear H1
              have H' := Aside0.mk H
              clear H
              obtain ⟨_,_⟩ := cz2 BK105.out
              have hfz15_0 := blk_frozen BK105.out
              go_wp2_with (first | ((with_reducible refine gate_callee (f := 33) rfl ?_); refine gL (some 21) Try.func33 #[.int .i64 ((rd_T41 l0 x15_1).f0), .int .i64 0, .int .i64 1000] ?_; (with_reducible refine (impl_in.calls ((rd_T41 l0 x15_1).f0) 0 1000 false _ A10.out).mono ?_); rintro e w' ⟨rfl, ⟨nd, rfl⟩⟩; refine ⟨_, rfl, ?_⟩))
              go_meet
              case rel => exact ⟨_, (true), sQ, H', ⟨by have := HK1.out; first | omega | exact Nat.le_refl _⟩, ⟨by (with_reducible repeat (first | apply Kd.R_alloc | apply Kd.R_drewN | apply Kd.R_drew)); exact Kd.R_mono (Kd.R_far (p := ⟨gb105, 1, none⟩) (Kd.R_far (p := ⟨gb105, 0, none⟩) (Kd.R_types HO_3.out BK105.out (by decide)) (fun _ hk => hk.2) (.int .i64 ((rd_T41 l0 x15_1).f0))) (fun _ hk => hk.2) (.slice A104_1 ((rd_T41 l0 x15_1).f1).length c104_1)) (fun _ hk => trivial)⟩, ⟨by (with_reducible repeat (first | apply bkD | apply bkd | apply bkA)); refine blk_put (cs := #[.int .i64 ((rd_T41 l0 x15_1).f0), .slice none 0 0]) ?_ 1 _ rfl; (with_reducible repeat (first | apply bkD | apply bkd | apply bkA)); refine blk_put (cs := #[.int .i64 0, .slice none 0 0]) ?_ 0 _ rfl; (with_reducible repeat (first | apply bkD | apply bkd | apply bkA)); exact BK105.out⟩, ⟨bq HB⟩⟩
            case rest =>
              clear HC7
              try clear c1
              try clear p1
              try clear q1
              try clear hx1
              try clear p2
              try clear c3
              try clear c4
              try clear c4b0
              try clear c5
              try clear c5b0
              try clear c6
              try clear c6b0
              try clear c10
              try clear p10
              try clear q10
              try clear hx10
              try clear c11
              try clear c12
              try clear c12b0
              try clear c12b1
              try clear hfz13_0
              try clear hfz14_0
              try clear hfz15_0
              try clear hfz9_0
              try clear hx104_0
              try clear hx104_1
              try clear p104
              try clear p2
              try clear q104
              obtain ⟨kq, x33_6, rfl, HA, HJ6, HO_3, BK105, HB⟩ := hcut
              cases kq with
              | zero => exact absurd HA.out (by simp [impl_LocksOk.j1])
              | succ kj6 =>
                have H := HA.out
                clear HA
                simp only [impl_LocksOk.j1] at H
                by_cases c16 : x33_6 = true
                · subst c16
                  have H1 : (some false) = some r := by rw [if_pos rfl] at H; exact H
                  clear H
                  have H := H1
                  clear H1
                  obtain rfl := Option.some.inj H
                  go_wp2
                  go_ret
                  exact ⟨sR, bq HB⟩
                replace c16 := Bool.eq_false_iff.mpr c16
                subst c16
                have H1 : (impl_LocksOk.l1 kj6 l0 x3_1 l0 (l0.length : Int) x15_1 ((rd_T41 l0 x15_1).f1) (((rd_T41 l0 x15_1).f1).length : Int) 0) = some r := by rw [if_neg (show ¬ (false = true) by decide)] at H; exact H
                clear H
                have H := H1
                clear H1
                have H' := Aside0.mk H
                clear H
                have hcz17_0 : wc.cell? ⟨gb105, 0, none⟩ = some (.int .i64 ((rd_T41 l0 x15_1).f0)) := (blk_cell BK105.out 0).trans rfl
                have hcz17_1 : wc.cell? ⟨gb105, 1, none⟩ = some (.slice A104_1 ((rd_T41 l0 x15_1).f1).length c104_1) := (blk_cell BK105.out 1).trans rfl
                have hfz17_0 := blk_frozen BK105.out
                go_wp2
                go_loopg [3, 37] kj6 (fun kq v3 v37 w' => ∃ (x3_3 : List Int) (x37_3 : Int), v37 = .int .i64 x37_3 ∧ Aside0 (impl_LocksOk.l1 kq l0 x3_3 l0 (l0.length : Int) x15_1 ((rd_T41 l0 x15_1).f1) (((rd_T41 l0 x15_1).f1).length : Int) x37_3 = some r) ∧ Aside0 (kq ≤ kj6) ∧ Aside0 (Kd.R (Kd.int .i64) 3 w' w.heap.size (fun _ => True) v3 x3_3) ∧ Aside0 (w'.heap[gb105]? = some (.cells #[.int .i64 ((rd_T41 l0 x15_1).f0), (.slice A104_1 ((rd_T41 l0 x15_1).f1).length c104_1)] 41 (0, 0))) ∧ Aside0 (Below w.heap.size w w'))
                case atStart => exact ⟨(x3_1), (0), sQ, H', ⟨Nat.le_refl _⟩, ⟨rq HO_3⟩, ⟨kq BK105⟩, ⟨bq HB⟩⟩
                case round =>
                  clear H'
                  try clear c1
                  try clear p1
                  try clear q1
                  try clear hx1
                  try clear p2
                  try clear c3
                  try clear c4
                  try clear c4b0
                  try clear c5
                  try clear c5b0
                  try clear c6
                  try clear c6b0
                  try clear c10
                  try clear p10
                  try clear q10
                  try clear hx10
                  try clear c11
                  try clear c12
                  try clear c12b0
                  try clear c12b1
                  try clear c16
                  try clear hcz17_0
                  try clear hcz17_1
                  try clear hfz13_0
                  try clear hfz14_0
                  try clear hfz15_0
                  try clear hfz17_0
                  try clear hfz9_0
                  try clear hx104_0
                  try clear hx104_1
                  try clear p1
                  try clear p10
                  try clear p104
                  try clear p2
                  try clear q1
                  try clear q10
                  try clear q104
                  obtain ⟨x3_3, x37_3, rfl, HA, HK3, HO_3, BK105, HB⟩ := hrel
                  cases gk with
                  | zero => exact absurd HA.out (by simp [impl_LocksOk.l1])
                  | succ k3 =>
                    have H := HA.out
                    clear HA
                    simp only [impl_LocksOk.l1] at H
                    by_cases c18 : x37_3 < (((rd_T41 l0 x15_1).f1).length : Int)
                    · rw [if_pos c18] at H
                      have c18b0 : decide (x37_3 < (((rd_T41 l0 x15_1).f1).length : Int)) = true := decide_eq_true c18
                      clear c18
                      by_cases c19 : 0 ≤ x37_3
                      · rw [if_pos c19] at H
                        have c19b0 : decide (0 ≤ x37_3) = true := decide_eq_true c19
                        clear c19
                        by_cases c20 : x37_3 < (((rd_T41 l0 x15_1).f1).length : Int)
                        · rw [if_pos c20] at H
                          have c20b0 : decide (x37_3 < (((rd_T41 l0 x15_1).f1).length : Int)) = true := decide_eq_true c20
                          clear c20
                          replace H := Option.bind_eq_some_iff.mp H
                          obtain ⟨t108, A210, H⟩ := H
                          replace H : (if t108 = true then ((slices_Contains_int_int.f k3 x3_3 (rd ((rd_T41 l0 x15_1).f1) x37_3)).bind fun t109 => (if t109 = true then (some false) else (if x3_3.length < 17592186044416 then (impl_LocksOk.l1 k3 l0 (x3_3 ++ [rd ((rd_T41 l0 x15_1).f1) x37_3]) l0 (l0.length : Int) x15_1 ((rd_T41 l0 x15_1).f1) (((rd_T41 l0 x15_1).f1).length : Int) (wrap64 (x37_3 + 1))) else (none)))) else (some false)) = some r := H
                          have A21 := Aside0.mk A210
                          clear A210
                          by_cases c22 : t108 = true
                          · subst c22
                            have H1 : ((slices_Contains_int_int.f k3 x3_3 (rd ((rd_T41 l0 x15_1).f1) x37_3)).bind fun t109 => (if t109 = true then (some false) else (if x3_3.length < 17592186044416 then (impl_LocksOk.l1 k3 l0 (x3_3 ++ [rd ((rd_T41 l0 x15_1).f1) x37_3]) l0 (l0.length : Int) x15_1 ((rd_T41 l0 x15_1).f1) (((rd_T41 l0 x15_1).f1).length : Int) (wrap64 (x37_3 + 1))) else (none)))) = some r := by rw [if_pos rfl] at H; exact H
                            clear H
                            have H := H1
                            clear H1
                            replace H := Option.bind_eq_some_iff.mp H
                            obtain ⟨t109, A230, H⟩ := H
                            replace H : (if t109 = true then (some false) else (if x3_3.length < 17592186044416 then (impl_LocksOk.l1 k3 l0 (x3_3 ++ [rd ((rd_T41 l0 x15_1).f1) x37_3]) l0 (l0.length : Int) x15_1 ((rd_T41 l0 x15_1).f1) (((rd_T41 l0 x15_1).f1).length : Int) (wrap64 (x37_3 + 1))) else (none))) = some r := H
                            have A23 := Aside0.mk A230
                            clear A230
                            by_cases c24 : t109 = true
                            · subst c24
                              have H1 : (some false) = some r := by rw [if_pos rfl] at H; exact H
                              clear H
                              have H := H1
                              clear H1
                              obtain rfl := Option.some.inj H
                              have p107 : 0 ≤ (x37_3 : Int) := dA
                              have q107 : x37_3 < (((rd_T41 l0 x15_1).f1).length : Int) := dA
                              obtain ⟨ad107, e107, hx107_0⟩ := Kd.at_int HR104_1.out x37_3 p107 q107
                              cases e107
                              replace hx107_0 := (HB.out.cell (World.block_lt_of_cell? w _ hx107_0)).trans hx107_0
                              replace p107 := eq_true p107
                              replace q107 := eq_true q107
                              go_wp2_with (first | ((with_reducible refine gate_callee (f := 34) rfl ?_); refine gL (some 42) Try.func34 #[.int .i64 (rd ((rd_T41 l0 x15_1).f1) x37_3)] ?_; (with_reducible refine (impl_isNo.calls (rd ((rd_T41 l0 x15_1).f1) x37_3) true _ A21.out).mono ?_); rintro e w' ⟨rfl, ⟨nd, rfl⟩⟩; refine ⟨_, rfl, ?_⟩; obtain ⟨Ao25, co25, eo25⟩ := Kd.R_slice HO_3.out; subst eo25) | (go_at_call 27; (with_reducible refine (slices_Contains_int_int.calls k3 _ _ x3_3 (rd ((rd_T41 l0 x15_1).f1) x37_3) true _ ?side1 ?side2 A23.out).mono ?_); (case side1 => exact cq (Kd.R_reads' HO_3.out).2.2); (case side2 => exact (Kd.R_reads' HO_3.out).2.1); rintro e w' ⟨rfl, ⟨nd, rfl⟩⟩))
                              go_ret
                              exact ⟨sR, bq HB⟩
                            replace c24 := Bool.eq_false_iff.mpr c24
                            subst c24
                            have H1 : (if x3_3.length < 17592186044416 then (impl_LocksOk.l1 k3 l0 (x3_3 ++ [rd ((rd_T41 l0 x15_1).f1) x37_3]) l0 (l0.length : Int) x15_1 ((rd_T41 l0 x15_1).f1) (((rd_T41 l0 x15_1).f1).length : Int) (wrap64 (x37_3 + 1))) else (none)) = some r := by rw [if_neg (show ¬ (false = true) by decide)] at H; exact H
                            clear H
                            have H := H1
                            clear H1
                            by_cases c26 : x3_3.length < 17592186044416
                            · rw [if_pos c26] at H
                              have LMc26 := Aside0.mk c26
                              clear c26
                              obtain ⟨y110, hy110⟩ : ∃ y_ : List Int, y_ = (x3_3 ++ [rd ((rd_T41 l0 x15_1).f1) x37_3]) := ⟨_, rfl⟩
                              replace H : (impl_LocksOk.l1 k3 l0 y110 l0 (l0.length : Int) x15_1 ((rd_T41 l0 x15_1).f1) (((rd_T41 l0 x15_1).f1).length : Int) (wrap64 (x37_3 + 1))) = some r := by first | (rw [hy110]; with_reducible exact H) | (have H2_ := (Option.bind_some _ _).symm.trans H; rw [hy110]; with_reducible exact H2_) | (have H2_ := (Option.bind_some _ _).symm.trans H; with_reducible exact H2_) | with_reducible exact H | (rw [hy110]; exact H) | exact H
                              have Ny110 := Aside0.mk hy110
                              clear hy110
                              have H' := Aside0.mk H
                              clear H
                              have p107 : 0 ≤ (x37_3 : Int) := dA
                              have q107 : x37_3 < (((rd_T41 l0 x15_1).f1).length : Int) := dA
                              obtain ⟨ad107, e107, hx107_0⟩ := Kd.at_int HR104_1.out x37_3 p107 q107
                              cases e107
                              replace hx107_0 := (HB.out.cell (World.block_lt_of_cell? w _ hx107_0)).trans hx107_0
                              replace p107 := eq_true p107
                              replace q107 := eq_true q107
                              go_wp2_with (first | ((with_reducible refine gate_callee (f := 34) rfl ?_); refine gL (some 42) Try.func34 #[.int .i64 (rd ((rd_T41 l0 x15_1).f1) x37_3)] ?_; (with_reducible refine (impl_isNo.calls (rd ((rd_T41 l0 x15_1).f1) x37_3) true _ A21.out).mono ?_); rintro e w' ⟨rfl, ⟨nd, rfl⟩⟩; refine ⟨_, rfl, ?_⟩; obtain ⟨Ao27, co27, eo27⟩ := Kd.R_slice HO_3.out; subst eo27) | (go_at_call 27; (with_reducible refine (slices_Contains_int_int.calls k3 _ _ x3_3 (rd ((rd_T41 l0 x15_1).f1) x37_3) false _ ?side1 ?side2 A23.out).mono ?_); (case side1 => exact cq (Kd.R_reads' HO_3.out).2.2); (case side2 => exact (Kd.R_reads' HO_3.out).2.1); rintro e w' ⟨rfl, ⟨nd, rfl⟩⟩) | ((with_reducible refine gate_builtin (b := .append) (xs := #[.tmp 49, .tmp 51]) rfl ?_); (try (refine gate_guard (by rfl) ?_; dsimp only)); at_builtin; refine Kd.R_append (Kd.int .i64) (w0 := w) w.heap.size rfl (.tmp 49) (.tmp 51) 39 3 (.int .i64 0) 8 rfl Try.underlying39 info3 rfl (by decide) (by omega) (.slice Ao27 x3_3.length co27) x3_3 (rd ((rd_T41 l0 x15_1).f1) x37_3) [.int .i64 (rd ((rd_T41 l0 x15_1).f1) x37_3)] (fun _ => True) (fun _ => False) rfl rfl ?aP (fun _ hk => hk.elim) ?aF ?aO ?aB ?aS ?aL ?_; (case aP => exact rfl); (case aB => exact (bq HB)); (case aF => exact (fun _ _ => trivial)); (case aO => exact (rq HO_3)); (case aS => exact (below_size (bq HB))); (case aL => have := LMc26.out; omega); intro v111 w28 ho hb hg hat; rw [← Ny110.out] at ho; have n0_ := aM (blk_grown (g := gb105) (o := .cells #[.int .i64 ((rd_T41 l0 x15_1).f0), .slice (some ad107) ((rd_T41 l0 x15_1).f1).length c104_1] 41 (0, 0)) (kq BK105) hg (Kd.R_ne HO_3.out BK105.out (by decide))); have n1_ := aM (hb); have n2_ := aM (ho); clear BK105 HB HO_3; have BK105 := n0_; have HB := n1_; have HO112 := n2_; clear n0_ n1_ n2_; clear ho hb hg hat))
                              go_roundg k3
                              case measure => have := HK1.out; have := HJ6.out; have := HK3.out; omega
                              case rel => exact ⟨(y110), (wrap64 (x37_3 + 1)), sQ, H', ⟨by have := HK1.out; have := HJ6.out; have := HK3.out; omega⟩, ⟨rq HO112⟩, ⟨kq BK105⟩, ⟨bq HB⟩⟩
                            rw [if_neg c26] at H
                            exact absurd H (by simp)
                          replace c22 := Bool.eq_false_iff.mpr c22
                          subst c22
                          have H1 : (some false) = some r := by rw [if_neg (show ¬ (false = true) by decide)] at H; exact H
                          clear H
                          have H := H1
                          clear H1
                          obtain rfl := Option.some.inj H
                          have p107 : 0 ≤ (x37_3 : Int) := dA
                          have q107 : x37_3 < (((rd_T41 l0 x15_1).f1).length : Int) := dA
                          obtain ⟨ad107, e107, hx107_0⟩ := Kd.at_int HR104_1.out x37_3 p107 q107
                          cases e107
                          replace hx107_0 := (HB.out.cell (World.block_lt_of_cell? w _ hx107_0)).trans hx107_0
                          replace p107 := eq_true p107
                          replace q107 := eq_true q107
                          go_wp2_with (first | ((with_reducible refine gate_callee (f := 34) rfl ?_); refine gL (some 42) Try.func34 #[.int .i64 (rd ((rd_T41 l0 x15_1).f1) x37_3)] ?_; (with_reducible refine (impl_isNo.calls (rd ((rd_T41 l0 x15_1).f1) x37_3) false _ A21.out).mono ?_); rintro e w' ⟨rfl, ⟨nd, rfl⟩⟩; refine ⟨_, rfl, ?_⟩))
                          go_ret
                          exact ⟨sR, bq HB⟩
                        rw [if_neg c20] at H
                        exact absurd H (by simp)
                      rw [if_neg c19] at H
                      exact absurd H (by simp)
                    rw [if_neg c18] at H
                    have c18b0 : decide (x37_3 < (((rd_T41 l0 x15_1).f1).length : Int)) = false := decide_eq_false c18
                    clear c18
                    have H' := Aside0.mk H
                    clear H
                    go_wp2
                    go_roundg k3
                    case measure => have := HK1.out; have := HJ6.out; have := HK3.out; omega
                    case rel => exact ⟨(x3_3), (wrap64 (x15_1 + 1)), sQ, H', ⟨by have := HK1.out; have := HJ6.out; have := HK3.out; omega⟩, ⟨rq HO_3⟩, ⟨bq HB⟩⟩
          rw [if_neg c6] at H
          exact absurd H (by simp)
        rw [if_neg c5] at H
        exact absurd H (by simp)
      rw [if_neg c4] at H
      have c4b0 : decide (x15_1 < (l0.length : Int)) = false := decide_eq_false c4
      clear c4
      have H' := Aside0.mk H
      clear H
      obtain ⟨Ao29, co29, eo29⟩ := Kd.R_slice HO_3.out
      subst eo29
      go_wp2
      go_loopg [57] k1 (fun kq v57 w' => ∃ (x57_2 : Int), v57 = .int .i64 x57_2 ∧ Aside0 (impl_LocksOk.l2 kq l0 x3_1 (x3_1.length : Int) x57_2 = some r) ∧ Aside0 (kq ≤ k1) ∧ Aside0 (Kd.R (Kd.int .i64) 3 w' w.heap.size (fun _ => True) (.slice Ao29 x3_1.length co29) x3_1) ∧ Aside0 (Below w.heap.size w w'))
      case atStart => exact ⟨(0), sQ, H', ⟨Nat.le_refl _⟩, ⟨rq HO_3⟩, ⟨bq HB⟩⟩
      case round =>
        clear H'
        try clear c1
        try clear p1
        try clear q1
        try clear hx1
        try clear c2
        try clear p2
        try clear c3
        try clear c4
        try clear c4b0
        try clear c5
        try clear c5b0
        try clear c6
        try clear c6b0
        try clear p6
        try clear c10
        try clear p10
        try clear q10
        try clear hx10
        try clear c11
        try clear c12
        try clear c12b0
        try clear c12b1
        try clear c16
        try clear c18
        try clear c18b0
        try clear c19
        try clear c19b0
        try clear c20
        try clear c20b0
        try clear c22
        try clear c24
        try clear c26
        try clear hcz17_0
        try clear hcz17_1
        try clear hfz13_0
        try clear hfz14_0
        try clear hfz15_0
        try clear hfz17_0
        try clear hfz9_0
        try clear hx104_0
        try clear hx104_1
        try clear hx107_0
        try clear p1
        try clear p10
        try clear p104
        try clear p107
        try clear p2
        try clear q1
        try clear q10
        try clear q104
        try clear q107
        obtain ⟨x57_2, rfl, HA, HK2, HO_55, HB⟩ := hrel
        cases gk with
        | zero => exact absurd HA.out (by simp [impl_LocksOk.l2])
        | succ k2 =>
          have H := HA.out
          clear HA
          simp only [impl_LocksOk.l2] at H
          by_cases c30 : x57_2 < (x3_1.length : Int)
          · rw [if_pos c30] at H
            have c30b0 : decide (x57_2 < (x3_1.length : Int)) = true := decide_eq_true c30
            clear c30
            by_cases c31 : 0 ≤ x57_2
            · rw [if_pos c31] at H
              have c31b0 : decide (0 ≤ x57_2) = true := decide_eq_true c31
              clear c31
              by_cases c32 : x57_2 < (x3_1.length : Int)
              · rw [if_pos c32] at H
                have c32b0 : decide (x57_2 < (x3_1.length : Int)) = true := decide_eq_true c32
                clear c32
                replace H := Option.bind_eq_some_iff.mp H
                obtain ⟨⟨t114, t115⟩, A330, H⟩ := H
                replace H : (if t115 = true then (impl_LocksOk.l2 k2 l0 x3_1 (x3_1.length : Int) (wrap64 (x57_2 + 1))) else (some false)) = some r := H
                have A33 := Aside0.mk A330
                clear A330
                by_cases c34 : t115 = true
                · subst c34
                  have H1 : (impl_LocksOk.l2 k2 l0 x3_1 (x3_1.length : Int) (wrap64 (x57_2 + 1))) = some r := by rw [if_pos rfl] at H; exact H
                  clear H
                  have H := H1
                  clear H1
                  have H' := Aside0.mk H
                  clear H
                  have p113 : 0 ≤ (x57_2 : Int) := dA
                  have q113 : x57_2 < (x3_1.length : Int) := dA
                  obtain ⟨ad113, e113, hx113_0⟩ := Kd.at_int (Kd.R_reads' HO_55.out).2.2 x57_2 p113 q113
                  cases e113
                  replace p113 := eq_true p113
                  replace q113 := eq_true q113
                  go_wp2_with (first | ((with_reducible refine gate_callee (f := 35) rfl ?_); refine gL (some 64) Try.func35 #[.slice A0 l0.length c0, .int .i64 (rd x3_1 x57_2)] ?_; (with_reducible refine (impl_chain.calls k2 _ _ l0 (rd x3_1 x57_2) t114 true _ ?side1 ?side2 A33.out).mono ?_); (case side1 => exact cq (Kd.C_below HR0.out HB.out)); (case side2 => exact HC0.out); rintro e w35 ⟨v116, rfl, ho0, hb⟩; refine ⟨_, rfl, ?_⟩; have n0_ := aM (Kd.R_elder' (rq HO_55) (Kd.R_base ho0) hb); have n1_ := aM (Kd.R_lower (Kd.R_new' ho0 (Kd.R_lt (rq HO_55))) (below_size (bq HB))); have n2_ := aM (below_step (bq HB) hb); clear HO_55 HB; have HO_55 := n0_; have HO117 := n1_; have HB := n2_; clear n0_ n1_ n2_; (try clear hb); (try clear hb2); (try clear hk); (try clear hi); (try clear ho0)))
                  go_roundg k2
                  case measure => have := HK1.out; have := HK2.out; omega
                  case rel => exact ⟨(wrap64 (x57_2 + 1)), sQ, H', ⟨by have := HK1.out; have := HK2.out; omega⟩, ⟨by (with_reducible repeat (first | apply Kd.R_alloc | apply Kd.R_drewN | apply Kd.R_drew)); exact Kd.R_mono HO_55.out (fun _ hk => trivial)⟩, ⟨bq HB⟩⟩
                replace c34 := Bool.eq_false_iff.mpr c34
                subst c34
                have H1 : (some false) = some r := by rw [if_neg (show ¬ (false = true) by decide)] at H; exact H
                clear H
                have H := H1
                clear H1
                obtain rfl := Option.some.inj H
                have p113 : 0 ≤ (x57_2 : Int) := dA
                have q113 : x57_2 < (x3_1.length : Int) := dA
                obtain ⟨ad113, e113, hx113_0⟩ := Kd.at_int (Kd.R_reads' HO_55.out).2.2 x57_2 p113 q113
                cases e113
                replace p113 := eq_true p113
                replace q113 := eq_true q113
                go_wp2_with (first | ((with_reducible refine gate_callee (f := 35) rfl ?_); refine gL (some 64) Try.func35 #[.slice A0 l0.length c0, .int .i64 (rd x3_1 x57_2)] ?_; (with_reducible refine (impl_chain.calls k2 _ _ l0 (rd x3_1 x57_2) t114 false _ ?side1 ?side2 A33.out).mono ?_); (case side1 => exact cq (Kd.C_below HR0.out HB.out)); (case side2 => exact HC0.out); rintro e w36 ⟨v116, rfl, ho0, hb⟩; refine ⟨_, rfl, ?_⟩; have n0_ := aM (Kd.R_elder' (rq HO_55) (Kd.R_base ho0) hb); have n1_ := aM (Kd.R_lower (Kd.R_new' ho0 (Kd.R_lt (rq HO_55))) (below_size (bq HB))); have n2_ := aM (below_step (bq HB) hb); clear HO_55 HB; have HO_55 := n0_; have HO117 := n1_; have HB := n2_; clear n0_ n1_ n2_; (try clear hb); (try clear hb2); (try clear hk); (try clear hi); (try clear ho0)))
                go_ret
                exact ⟨sR, bq HB⟩
              rw [if_neg c32] at H
              exact absurd H (by simp)
            rw [if_neg c31] at H
            exact absurd H (by simp)
          rw [if_neg c30] at H
          have c30b0 : decide (x57_2 < (x3_1.length : Int)) = false := decide_eq_false c30
          clear c30
          obtain rfl := Option.some.inj H
          go_wp2
          go_ret
          exact ⟨sR, bq HB⟩

/-! ### impl_TaskAt: function 12, by hand -/
-- MANUAL rounds=no making=yes
theorem idxTask_rd (l : List S32) (i : Nat) (h : i < l.length) : rd_T32 l (i : Int) = l[i] := by
  unfold rd_T32
  rw [Int.toNat_natCast, List.getD_eq_getElem?_getD, List.getElem?_eq_getElem h, Option.getD_some]
theorem idxTask_hit (p : S32 → Bool) (l : List S32) (x : Int) (h0 : 0 ≤ x) (h : x < (l.length : Int)) (hp : p (rd_T32 l x) = true) : idxF p (l.drop x.toNat) x = x := by
  have hk : x.toNat < l.length := by omega
  have e := idxTask_rd l x.toNat hk
  rw [Int.toNat_of_nonneg h0] at e
  rw [List.drop_eq_getElem_cons hk, idxF, if_pos (by rw [← e]; exact hp)]
theorem idxTask_miss (p : S32 → Bool) (l : List S32) (x : Int) (h0 : 0 ≤ x) (h : x < (l.length : Int)) (hp : p (rd_T32 l x) = false) : idxF p (l.drop x.toNat) x = idxF p (l.drop (x + 1).toNat) (x + 1) := by
  have hk : x.toNat < l.length := by omega
  have e := idxTask_rd l x.toNat hk
  rw [Int.toNat_of_nonneg h0] at e
  rw [List.drop_eq_getElem_cons hk, idxF, if_neg (by rw [← e, hp]; decide), show (x + 1).toNat = x.toNat + 1 by omega]
theorem idxTask_end (p : S32 → Bool) (l : List S32) (x : Int) (h0 : 0 ≤ x) (h : ¬ x < (l.length : Int)) : idxF p (l.drop x.toNat) x = -1 := by
  rw [List.drop_eq_nil_of_le (by omega), idxF]
set_option maxHeartbeats 2000000 in
theorem idxTask (p : S32 → Bool) (B : Nat) (A0 : Option Addr) (c0 : Nat) (l0 : List S32) (w : World) (hr0 : Kd.C k32 w A0 l0.length l0) (hm : l0.length ≤ 9223372036854775807)
    (hp : ∀ (W : World) (x : S32), Below w.heap.size w W → Calls Try.prog 24 #[.agg #[.int .i64 x.f0, .int .i64 x.f1, .int .i64 x.f2, .int .i64 x.f3, .bool x.f4, .int .i64 x.f5, .int .i64 x.f6, .int .i64 x.f7, .int .i64 x.f8, .int .i64 x.f9, .int .i64 x.f10, .int .i64 x.f11, .int .i64 x.f12, .int .i64 x.f13], .pointer (some ⟨B, 0, none⟩)] W fun e w' => e = .returned (.bool (p x)) ∧ Below w.heap.size w w') :
    Calls Try.prog 23 #[.slice A0 l0.length c0, .func (.func 24) #[] #[.pointer (some ⟨B, 0, none⟩)]] w fun e w' => e = .returned (.int .i64 (idxF p l0 0)) ∧ Below w.heap.size w w' := by
  have eg : ∀ args w, (callFunc 24 args).run Try.prog w = .ok (.enter 24 args) w := Go.Proofs.enters_of Try.func24 (by kernel_rfl) rfl
  have HR0 := Aside0.mk hr0
  clear hr0
  have H0 : Aside0 (idxF p l0 0 = idxF p (l0.drop 0) ((0 : Nat) : Int)) := ⟨rfl⟩
  generalize hres : idxF p l0 0 = res at H0 ⊢
  clear hres
  go_enter Try.func23, Try.ntmps23
  go_wp2
  go_loopg [5, 8] l0.length (fun gg _ s8 wq => ∃ x : Int, s8 = .int .i64 x ∧ Aside0 (0 ≤ x ∧ x ≤ (l0.length : Int) ∧ l0.length - x.toNat ≤ gg) ∧ Aside0 (Below w.heap.size w wq) ∧ Aside0 (res = idxF p (l0.drop x.toNat) x))
  case atStart => exact ⟨0, rfl, ⟨by omega⟩, ⟨Below.refl _ w⟩, H0⟩
  case round =>
    clear H0
    obtain ⟨x, rfl, HX, BW, A⟩ := hrel
    by_cases hlt : x < (l0.length : Int)
    · have hx0 := HX.out.1
      have hk : x.toNat < l0.length := by omega
      have h64 : x + 1 ≤ 9223372036854775807 := by omega
      have d1 : decide (x < (l0.length : Int)) = true := decide_eq_true hlt
      have d2 : decide (0 ≤ x) = true := decide_eq_true hx0
      obtain ⟨ad, e0, hc0, hc1, hc2, hc3, hc4, hc5, hc6, hc7, hc8, hc9, hc10, hc11, hc12, hc13⟩ := at_T32 (Kd.C_below HR0.out BW.out) x hx0 hlt
      cases e0
      have hcall := hp wr (rd_T32 l0 x) BW.out
      have L := Aside0.mk hlt
      have p1 : (0 ≤ x) = True := eq_true hx0
      have q1 : (x < (l0.length : Int)) = True := eq_true hlt
      clear hp hlt hk hx0
      generalize hy : rd_T32 l0 x = y at *
      have R := Aside0.mk hy
      clear hy
      cases hq : p y with
      | true =>
        rw [hq] at hcall
        have Q := Aside0.mk hq
        clear hq
        go_wp2_with (go_at_fn 24; refine hcall.mono ?_; rintro e w' ⟨rfl, hb'⟩)
        go_ret
        refine ⟨?_, hb'⟩
        have e := A.out.trans (idxTask_hit p l0 x HX.out.1 L.out (by rw [R.out]; exact Q.out))
        rw [e]
        rfl
      | false =>
        rw [hq] at hcall
        have Q := Aside0.mk hq
        clear hq
        go_wp2_with (go_at_fn 24; refine hcall.mono ?_; rintro e w' ⟨rfl, hb'⟩)
        go_roundg (l0.length - (x.toNat + 1))
        case measure => have := L.out; have := HX.out; omega
        case rel =>
          have hx := HX.out
          have hl := L.out
          exact ⟨x + 1, by rw [Go.Proofs.Ythmcgbjfcjbhkaa.Base.wr (x + 1) (by omega) (by omega)], ⟨by omega⟩, ⟨hb'⟩, ⟨A.out.trans (idxTask_miss p l0 x hx.1 hl (by rw [R.out]; exact Q.out))⟩⟩
    have d1 : decide (x < (l0.length : Int)) = false := decide_eq_false hlt
    have L := Aside0.mk hlt
    clear hlt
    go_wp2
    go_ret
    refine ⟨?_, BW.out⟩
    have e := A.out.trans (idxTask_end p l0 x HX.out.1 (by have := L.out; omega))
    rw [e]
    rfl
theorem taskAt_clo (no : Int) (B : Nat) (w : World) (hB : B < w.heap.size) (hc : w.cell? ⟨B, 0, none⟩ = some (.int .i64 no)) (W : World) (x : S32) (hb : Below w.heap.size w W) :
    Calls Try.prog 24 #[.agg #[.int .i64 x.f0, .int .i64 x.f1, .int .i64 x.f2, .int .i64 x.f3, .bool x.f4, .int .i64 x.f5, .int .i64 x.f6, .int .i64 x.f7, .int .i64 x.f8, .int .i64 x.f9, .int .i64 x.f10, .int .i64 x.f11, .int .i64 x.f12, .int .i64 x.f13], .pointer (some ⟨B, 0, none⟩)] W fun e w' => e = .returned (.bool (x.f0 == no)) ∧ Below w.heap.size w w' := by
  have hc2 : W.cell? ⟨B, 0, none⟩ = some (.int .i64 no) := (hb.cell (p := ⟨B, 0, none⟩) hB).trans hc
  have hBW : B < W.heap.size := Nat.lt_of_lt_of_le hB hb.size
  have hne : B ≠ W.heap.size := by omega
  have HB := Aside0.mk hb
  clear hb hc
  go_enter Try.func24, Try.ntmps24
  go_wp2
  all_goals (go_ret; exact ⟨by simp_all, HB.out.alloc HB.out.size _⟩)
def impl_TaskAt.f (l0 : List (S32)) (a1 : Int) : Option (Int) := some (idxF (fun t => t.f0 == a1) l0 0)
theorem impl_TaskAt.calls (A0 : Option Addr) (c0 : Nat) (l0 : List (S32)) (a1 : Int) (r : Int) (w : World) (hr0 : Kd.C k32 w A0 l0.length l0) (hc0 : l0.length ≤ c0) (h : impl_TaskAt.f l0 a1 = some r) :
    Calls Try.prog 12 #[.slice A0 l0.length c0, .int .i64 a1] w fun e w' => e = .returned (.int .i64 r) ∧ Below w.heap.size w w' := by
  obtain rfl := Option.some.inj h
  clear h
  have hcon := idxTask (fun t => t.f0 == a1) w.heap.size A0 c0 l0 (w.alloc (.cells #[.int .i64 a1] 3)) (Kd.C_below hr0 (below_alloc (Below.refl _ _) _)) hr0.2.1 (fun W x hb => taskAt_clo a1 w.heap.size _ (by simp) (by simp) W x hb)
  clear hr0
  generalize idxF (fun t : S32 => t.f0 == a1) l0 0 = res at hcon ⊢
  go_enter Try.func12, Try.ntmps12
  go_wp2_with (go_at_call 23; refine hcon.mono ?_; rintro e w' ⟨rfl, hb'⟩)
  go_ret
  exact ⟨rfl, ((Below.refl _ w).alloc (Nat.le_refl _) _).trans (hb'.mono (by simp))⟩

/-! ### impl_executor: function 17 -/
def impl_executor.l0 : Nat → List (S32) → List Int → List Int → Int → Int → Option (Int)
  | 0, _, _, _, _, _ => none
  | k + 1, x0, x7, x17, x18, x19 => if x19 < x18 then (if 0 ≤ x19 then (if x19 < (x17.length : Int) then ((impl_TaskAt.f x0 (rd x17 x19)).bind fun t106 => (if t106 < 0 then (some 0) else (impl_executor.l0 k x0 x7 x17 x18 (wrap64 (x19 + 1))))) else (none)) else (none)) else (if 0 ≤ (wrap64 ((x7.length : Int) - 1)) then (if (wrap64 ((x7.length : Int) - 1)) < (x7.length : Int) then (some (rd x7 (wrap64 ((x7.length : Int) - 1)))) else (none)) else (none))
def impl_executor.f (k : Nat) (l0 : List (S32)) (l1 : List (S41)) (a2 : Int) : Option (Int) := (impl_chain.f k l1 a2).bind fun bt101 => (impl_executor.l0 k l0 bt101.1 bt101.1 (bt101.1.length : Int) 0)
theorem impl_executor.mono_l : ∀ k, (∀ y0 y1 y2 y3 y4, LeO (impl_executor.l0 k y0 y1 y2 y3 y4) (impl_executor.l0 (k + 1) y0 y1 y2 y3 y4))
  | 0 => fun _ _ _ _ _ r h => by simp [impl_executor.l0] at h
  | k + 1 => by
    have ih0 := impl_executor.mono_l k
    intro y0 y1 y2 y3 y4
    unfold impl_executor.l0
    repeat' first
    | (with_reducible exact ih0 _ _ _ _ _)
    | (with_reducible exact impl_chain.mono _ _ _)
    | (with_reducible exact LeO.refl _)
    | (with_reducible exact LeO.none _)
    | (with_reducible refine LeO.ite ?_ ?_)
    | (with_reducible refine LeO.bind ?_ (fun _ => ?_))
theorem impl_executor.mono : ∀ a0 a1 a2 k, LeO (impl_executor.f k a0 a1 a2) (impl_executor.f (k + 1) a0 a1 a2) := by
  intro a0 a1 a2 k
  have ih0 := impl_executor.mono_l k
  unfold impl_executor.f
  repeat' first
      | (with_reducible exact ih0 _ _ _ _ _)
      | (with_reducible exact impl_chain.mono _ _ _)
      | (with_reducible exact LeO.refl _)
      | (with_reducible exact LeO.none _)
      | (with_reducible refine LeO.ite ?_ ?_)
      | (with_reducible refine LeO.bind ?_ (fun _ => ?_))
set_option maxHeartbeats 8000000 in
set_option maxRecDepth 100000 in
theorem impl_executor.calls (k : Nat) (A0 : Option Addr) (c0 : Nat) (l0 : List (S32)) (A1 : Option Addr) (c1 : Nat) (l1 : List (S41)) (a2 : Int) (r : Int) (w : World) (hr0 : Kd.C k32 w A0 l0.length l0) (hc0 : l0.length ≤ c0) (hr1 : Kd.C k41 w A1 l1.length l1) (hc1 : l1.length ≤ c1) (h : impl_executor.f k l0 l1 a2 = some r) :
    Calls Try.prog 17 #[.slice A0 l0.length c0, .slice A1 l1.length c1, .int .i64 a2] w fun e w' => e = .returned (.int .i64 r) ∧ Below w.heap.size w w' := by
  have HR0 := Aside0.mk hr0
  have HC0 := Aside0.mk hc0
  clear hr0 hc0
  have HR1 := Aside0.mk hr1
  have HC1 := Aside0.mk hc1
  clear hr1 hc1
  have HB := aM (Below.refl w.heap.size w)
  have H : ((impl_chain.f k l1 a2).bind fun bt101 => (impl_executor.l0 k l0 bt101.1 bt101.1 (bt101.1.length : Int) 0)) = some r := h
  clear h
  replace H := Option.bind_eq_some_iff.mp H
  obtain ⟨⟨t101, t102⟩, A40, H⟩ := H
  replace H : (impl_executor.l0 k l0 t101 t101 (t101.length : Int) 0) = some r := H
  have A4 := Aside0.mk A40
  clear A40
  have H' := Aside0.mk H
  clear H
  go_enter Try.func17, Try.ntmps17
  go_wp2_with (first | ((with_reducible refine gate_callee (f := 35) rfl ?_); refine gL (some 14) Try.func35 #[.slice A1 l1.length c1, .int .i64 a2] ?_; (with_reducible refine (impl_chain.calls k _ _ l1 a2 t101 t102 _ ?side1 ?side2 A4.out).mono ?_); (case side1 => exact cq HR1.out); (case side2 => exact HC1.out); rintro e w5 ⟨v103, rfl, ho0, hb⟩; refine ⟨_, rfl, ?_⟩; have n0_ := aM (Kd.R_lower ho0 (below_size (bq HB))); have n1_ := aM (below_step (bq HB) hb); clear HB; have HO104 := n0_; have HB := n1_; clear n0_ n1_; (try clear hb); (try clear hb2); (try clear hk); (try clear hi); (try clear ho0); obtain ⟨Ao6, co6, eo6⟩ := Kd.R_slice HO104.out; subst eo6))
  go_loopg [19] k (fun kq v19 w' => ∃ (x19_1 : Int), v19 = .int .i64 x19_1 ∧ Aside0 (impl_executor.l0 kq l0 t101 t101 (t101.length : Int) x19_1 = some r) ∧ Aside0 (kq ≤ k) ∧ Aside0 (Kd.R (Kd.int .i64) 3 w' w.heap.size (fun _ => True) (.slice Ao6 t101.length co6) t101) ∧ Aside0 (Kd.R (Kd.int .i64) 3 w' w.heap.size (fun _ => True) (.slice Ao6 t101.length co6) t101) ∧ Aside0 (Below w.heap.size w w'))
  case atStart => exact ⟨(0), sQ, H', ⟨Nat.le_refl _⟩, ⟨rq HO104⟩, ⟨rq HO104⟩, ⟨bq HB⟩⟩
  case round =>
    clear H'
    try clear c1
    try clear p2
    try clear c3
    obtain ⟨x19_1, rfl, HA, HK1, HO_7, HO_17, HB⟩ := hrel
    cases gk with
    | zero => exact absurd HA.out (by simp [impl_executor.l0])
    | succ k1 =>
      have H := HA.out
      clear HA
      simp only [impl_executor.l0] at H
      by_cases c7 : x19_1 < (t101.length : Int)
      · rw [if_pos c7] at H
        have c7b0 : decide (x19_1 < (t101.length : Int)) = true := decide_eq_true c7
        clear c7
        by_cases c8 : 0 ≤ x19_1
        · rw [if_pos c8] at H
          have c8b0 : decide (0 ≤ x19_1) = true := decide_eq_true c8
          clear c8
          by_cases c9 : x19_1 < (t101.length : Int)
          · rw [if_pos c9] at H
            have c9b0 : decide (x19_1 < (t101.length : Int)) = true := decide_eq_true c9
            clear c9
            replace H := Option.bind_eq_some_iff.mp H
            obtain ⟨t106, A100, H⟩ := H
            replace H : (if t106 < 0 then (some 0) else (impl_executor.l0 k1 l0 t101 t101 (t101.length : Int) (wrap64 (x19_1 + 1)))) = some r := H
            have A10 := Aside0.mk A100
            clear A100
            by_cases c11 : t106 < 0
            · rw [if_pos c11] at H
              have c11b0 : decide (t106 < 0) = true := decide_eq_true c11
              clear c11
              obtain rfl := Option.some.inj H
              have p105 : 0 ≤ (x19_1 : Int) := dA
              have q105 : x19_1 < (t101.length : Int) := dA
              obtain ⟨ad105, e105, hx105_0⟩ := Kd.at_int (Kd.R_reads' HO_17.out).2.2 x19_1 p105 q105
              cases e105
              replace p105 := eq_true p105
              replace q105 := eq_true q105
              go_wp2_with (first | ((with_reducible refine gate_callee (f := 12) rfl ?_); refine gL (some 25) Try.func12 #[.slice A0 l0.length c0, .int .i64 (rd t101 x19_1)] ?_; (with_reducible refine (impl_TaskAt.calls _ _ l0 (rd t101 x19_1) t106 _ ?side1 ?side2 A10.out).mono ?_); (case side1 => exact cq (Kd.C_below HR0.out HB.out)); (case side2 => exact HC0.out); rintro e w12 ⟨rfl, hb⟩; refine ⟨_, rfl, ?_⟩; have n0_ := aM (Kd.R_below (rq HO_7) hb); have n1_ := aM (Kd.R_below (rq HO_17) hb); have n2_ := aM (below_step (bq HB) hb); clear HO_7 HO_17 HB; have HO_7 := n0_; have HO_17 := n1_; have HB := n2_; clear n0_ n1_ n2_; (try clear hb); (try clear hb2); (try clear hk); (try clear hi)))
              go_ret
              exact ⟨sR, bq HB⟩
            rw [if_neg c11] at H
            have c11b0 : decide (t106 < 0) = false := decide_eq_false c11
            clear c11
            have H' := Aside0.mk H
            clear H
            have p105 : 0 ≤ (x19_1 : Int) := dA
            have q105 : x19_1 < (t101.length : Int) := dA
            obtain ⟨ad105, e105, hx105_0⟩ := Kd.at_int (Kd.R_reads' HO_17.out).2.2 x19_1 p105 q105
            cases e105
            replace p105 := eq_true p105
            replace q105 := eq_true q105
            go_wp2_with (first | ((with_reducible refine gate_callee (f := 12) rfl ?_); refine gL (some 25) Try.func12 #[.slice A0 l0.length c0, .int .i64 (rd t101 x19_1)] ?_; (with_reducible refine (impl_TaskAt.calls _ _ l0 (rd t101 x19_1) t106 _ ?side1 ?side2 A10.out).mono ?_); (case side1 => exact cq (Kd.C_below HR0.out HB.out)); (case side2 => exact HC0.out); rintro e w13 ⟨rfl, hb⟩; refine ⟨_, rfl, ?_⟩; have n0_ := aM (Kd.R_below (rq HO_7) hb); have n1_ := aM (Kd.R_below (rq HO_17) hb); have n2_ := aM (below_step (bq HB) hb); clear HO_7 HO_17 HB; have HO_7 := n0_; have HO_17 := n1_; have HB := n2_; clear n0_ n1_ n2_; (try clear hb); (try clear hb2); (try clear hk); (try clear hi)))
            go_roundg k1
            case measure => have := HK1.out; omega
            case rel => exact ⟨(wrap64 (x19_1 + 1)), sQ, H', ⟨by have := HK1.out; omega⟩, ⟨rq HO_7⟩, ⟨rq HO_17⟩, ⟨bq HB⟩⟩
          rw [if_neg c9] at H
          exact absurd H (by simp)
        rw [if_neg c8] at H
        exact absurd H (by simp)
      rw [if_neg c7] at H
      have c7b0 : decide (x19_1 < (t101.length : Int)) = false := decide_eq_false c7
      clear c7
      obtain ⟨ji14, hji14⟩ : ∃ j_ : Int, (wrap64 ((t101.length : Int) - 1)) = j_ := ⟨_, rfl⟩
      replace H : (if 0 ≤ (ji14) then (if (ji14) < (t101.length : Int) then (some (rd t101 (ji14))) else (none)) else (none)) = some r := by first | (rw [hji14] at H; exact H) | (simp only [hji14] at H ⊢; exact H)
      have hji14w : (IntKind.i64.wrap ((t101.length : Int) - 1)) = ji14 := (i64_w _).trans hji14
      by_cases c15 : 0 ≤ (ji14)
      · rw [if_pos c15] at H
        have c15b0 : decide (0 ≤ (ji14)) = true := decide_eq_true c15
        clear c15
        by_cases c16 : (ji14) < (t101.length : Int)
        · rw [if_pos c16] at H
          have c16b0 : decide ((ji14) < (t101.length : Int)) = true := decide_eq_true c16
          clear c16
          obtain rfl := Option.some.inj H
          have p107 : 0 ≤ ((ji14) : Int) := dA
          have q107 : (ji14) < (t101.length : Int) := dA
          obtain ⟨ad107, e107, hx107_0⟩ := Kd.at_int (Kd.R_reads' HO_7.out).2.2 (ji14) p107 q107
          cases e107
          replace p107 := eq_true p107
          replace q107 := eq_true q107
          go_wp2
          go_ret
          exact ⟨by first | rfl | (simp [errW_none, errW_some] <;> rfl) | (simp only [← hji14]; first | rfl | (simp [errW_none, errW_some] <;> rfl)) | (simp [*, errW_none, errW_some] <;> rfl), bq HB⟩
        rw [if_neg c16] at H
        exact absurd H (by simp)
      rw [if_neg c15] at H
      exact absurd H (by simp)

end Go.Proofs.Ythmcgbjfcjbhkaa.Print
