/- Go functions as plain functions, and that the Go code answers as these. Printed by wip/patch.py. -/
import Derived.Test.YthmcgbjfcjbhkaaPrint0
import Derived.Test.YthmcgbjfcjbhkaaPrintSlicesIndexIntInt
import Derived.Test.YthmcgbjfcjbhkaaPrintSpecL3DrawList
import Derived.Test.YthmcgbjfcjbhkaaPrintSpecL7Draw
import Derived.Test.YthmcgbjfcjbhkaaPrintSpecLockAsk
namespace Go.Proofs.Ythmcgbjfcjbhkaa.Print
open Go.RowKit Go.Proofs.Ythmcgbjfcjbhkaa.Base Go.Proofs.YthmcgbjfcjbhkaaW.PrintWords Go.Proofs.YthmcgbjfcjbhkaaW.PrintLast Go.Proofs.YthmcgbjfcjbhkaaW.PrintMore
attribute [local go_sem] max2_int min2_int max_two min_two max_three min_three max_four min_four
set_option linter.all false

/-! ### spec_l8DrawBoth: function 29 -/
mutual
def spec_l8DrawBoth.l0 : Nat → List (S32) → List (S41) → Int → Int → List Int → Int → Int → Option ((List (S32)) × (List (S41)) × Int × Int)
  | 0, _, _, _, _, _, _, _ => none
  | k + 1, x4, x5, x6, x7, x1000, x1001, x1002 => if x7 < x6 then (spec_l8DrawBoth.j1 k x4 x5 x6 x7 (decide ((x4.length : Int) > 0)) x1000 x1001 x1002) else (spec_l8DrawBoth.j1 k x4 x5 x6 x7 false x1000 x1001 x1002)
def spec_l8DrawBoth.j1 : Nat → List (S32) → List (S41) → Int → Int → Bool → List Int → Int → Int → Option ((List (S32)) × (List (S41)) × Int × Int)
  | 0, _, _, _, _, _, _, _, _ => none
  | k + 1, x4, x5, x6, x7, x20, x1000, x1001, x1002 => if x20 = true then ((spec_l1Below.f x1000 x1001 x1002 3).bind fun bt112 => ((spec_l1Below.f x1000 bt112.2.1 bt112.2.2 (x4.length : Int)).bind fun bt115 => (if 0 ≤ bt115.1 then (if bt115.1 < (x4.length : Int) then ((spec_LockAsk.f k x5 bt112.1 ((rd_T32 x4 bt115.1).f0)).bind fun bt119 => (spec_l8DrawBoth.l0 k x4 bt119.1 x6 (wrap64 (x7 + 1)) x1000 bt115.2.1 bt115.2.2)) else (none)) else (none)))) else (if (x5.length : Int) = 0 then ((spec_l7Draw.f k x1000 x1001 x1002).bind fun bt123 => (some (x4, bt123.1, bt123.2.1, bt123.2.2))) else ((spec_l1Once.f x1000 x1001 x1002 8).bind fun bt128 => (if bt128.1 = true then ((spec_l7Draw.f k x1000 bt128.2.1 bt128.2.2).bind fun bt131 => (some (x4, bt131.1, bt131.2.1, bt131.2.2))) else (some (x4, x5, bt128.2.1, bt128.2.2)))))
end
def spec_l8DrawBoth.f (k : Nat) (s0_0 : List Int) (s0_1 : Int) (s0_2 : Int) : Option ((List (S32)) × (List (S41)) × Int × Int) := (spec_l3DrawList.f k s0_0 s0_1 s0_2).bind fun bt101 => (if 3 ≤ 8796093022208 then ((spec_l1Below.f s0_0 bt101.2.1 bt101.2.2 8).bind fun bt109 => (spec_l8DrawBoth.l0 k bt101.1 (List.replicate 3 z41) bt109.1 0 s0_0 bt109.2.1 bt109.2.2)) else (none))
theorem spec_l8DrawBoth.mono_l : ∀ k, (∀ y0 y1 y2 y3 y4 y5 y6, LeO (spec_l8DrawBoth.l0 k y0 y1 y2 y3 y4 y5 y6) (spec_l8DrawBoth.l0 (k + 1) y0 y1 y2 y3 y4 y5 y6)) ∧ (∀ y0 y1 y2 y3 y4 y5 y6 y7, LeO (spec_l8DrawBoth.j1 k y0 y1 y2 y3 y4 y5 y6 y7) (spec_l8DrawBoth.j1 (k + 1) y0 y1 y2 y3 y4 y5 y6 y7))
  | 0 => ⟨fun _ _ _ _ _ _ _ r h => by simp [spec_l8DrawBoth.l0] at h, fun _ _ _ _ _ _ _ _ r h => by simp [spec_l8DrawBoth.j1] at h⟩
  | k + 1 => by
    obtain ⟨ih0, ih1⟩ := spec_l8DrawBoth.mono_l k
    refine ⟨?_, ?_⟩
    · intro y0 y1 y2 y3 y4 y5 y6
      unfold spec_l8DrawBoth.l0
      repeat' first
      | (with_reducible exact ih0 _ _ _ _ _ _ _)
      | (with_reducible exact ih1 _ _ _ _ _ _ _ _)
      | (with_reducible exact spec_LockAsk.mono _ _ _ _)
      | (with_reducible exact spec_l3DrawList.mono _ _ _ _)
      | (with_reducible exact spec_l7Draw.mono _ _ _ _)
      | (with_reducible exact LeO.refl _)
      | (with_reducible exact LeO.none _)
      | (with_reducible refine LeO.ite ?_ ?_)
      | (with_reducible refine LeO.bind ?_ (fun _ => ?_))
    intro y0 y1 y2 y3 y4 y5 y6 y7
    unfold spec_l8DrawBoth.j1
    repeat' first
    | (with_reducible exact ih0 _ _ _ _ _ _ _)
    | (with_reducible exact ih1 _ _ _ _ _ _ _ _)
    | (with_reducible exact spec_LockAsk.mono _ _ _ _)
    | (with_reducible exact spec_l3DrawList.mono _ _ _ _)
    | (with_reducible exact spec_l7Draw.mono _ _ _ _)
    | (with_reducible exact LeO.refl _)
    | (with_reducible exact LeO.none _)
    | (with_reducible refine LeO.ite ?_ ?_)
    | (with_reducible refine LeO.bind ?_ (fun _ => ?_))
theorem spec_l8DrawBoth.mono : ∀ a0 a1 a2 k, LeO (spec_l8DrawBoth.f k a0 a1 a2) (spec_l8DrawBoth.f (k + 1) a0 a1 a2) := by
  intro a0 a1 a2 k
  obtain ⟨ih0, ih1⟩ := spec_l8DrawBoth.mono_l k
  unfold spec_l8DrawBoth.f
  repeat' first
      | (with_reducible exact ih0 _ _ _ _ _ _ _)
      | (with_reducible exact ih1 _ _ _ _ _ _ _ _)
      | (with_reducible exact spec_LockAsk.mono _ _ _ _)
      | (with_reducible exact spec_l3DrawList.mono _ _ _ _)
      | (with_reducible exact spec_l7Draw.mono _ _ _ _)
      | (with_reducible exact LeO.refl _)
      | (with_reducible exact LeO.none _)
      | (with_reducible refine LeO.ite ?_ ?_)
      | (with_reducible refine LeO.bind ?_ (fun _ => ?_))
set_option maxHeartbeats 8000000 in
set_option maxRecDepth 100000 in
theorem spec_l8DrawBoth.calls (k : Nat) (g : Nat) (s0_0 : List Int) (s0_1 : Int) (s0_2 : Int) (r1 : List (S32)) (r2 : List (S41)) (r3 : Int) (r4 : Int) (w0 w : World) (hI : IsS56 w0 w g s0_0 s0_1 s0_2) (hB : Below w0.heap.size w0 w) (h : spec_l8DrawBoth.f k s0_0 s0_1 s0_2 = some (r1, r2, r3, r4)) :
    Calls Try.prog 29 #[.pointer (some ⟨g, 0, none⟩)] w fun e w' => ∃ v0_ v1_ : Value, e = .returned (.tuple #[v0_, v1_]) ∧ Kd.R k32 32 w' w.heap.size (fun _ => True) v0_ r1 ∧ Kd.S k41 41 w' w.heap.size (fun _ => True) v1_ r2 ∧ IsS56 w0 w' g s0_0 r3 r4 ∧ Below w0.heap.size w0 w' ∧ KeepBut w w' g none := by
  have HI0 := Aside0.mk hI
  have HK := aM (KeepBut.refl w g none)
  have HL := Aside0.mk hB.size
  clear hI
  have HW0 := Aside0.mk hB.size
  have HB := Aside0.mk hB
  clear hB
  have H : ((spec_l3DrawList.f k s0_0 s0_1 s0_2).bind fun bt101 => (if 3 ≤ 8796093022208 then ((spec_l1Below.f s0_0 bt101.2.1 bt101.2.2 8).bind fun bt109 => (spec_l8DrawBoth.l0 k bt101.1 (List.replicate 3 z41) bt109.1 0 s0_0 bt109.2.1 bt109.2.2)) else (none))) = some (r1, r2, r3, r4) := h
  clear h
  replace H := Option.bind_eq_some_iff.mp H
  obtain ⟨⟨t101, t104, t105⟩, A20, H⟩ := H
  replace H : (if 3 ≤ 8796093022208 then ((spec_l1Below.f s0_0 t104 t105 8).bind fun bt109 => (spec_l8DrawBoth.l0 k t101 (List.replicate 3 z41) bt109.1 0 s0_0 bt109.2.1 bt109.2.2)) else (none)) = some (r1, r2, r3, r4) := H
  have A2 := Aside0.mk A20
  clear A20
  by_cases c3 : 3 ≤ 8796093022208
  · rw [if_pos c3] at H
    have c3b0 := eq_true c3
    have c3b1 : decide (3 ≤ 8796093022208) = true := decide_eq_true c3
    clear c3
    obtain ⟨y106, hy106⟩ : ∃ y_ : List (S41), y_ = (List.replicate 3 z41) := ⟨_, rfl⟩
    replace H : ((spec_l1Below.f s0_0 t104 t105 8).bind fun bt109 => (spec_l8DrawBoth.l0 k t101 y106 bt109.1 0 s0_0 bt109.2.1 bt109.2.2)) = some (r1, r2, r3, r4) := by first | (rw [hy106]; with_reducible exact H) | (have H2_ := (Option.bind_some _ _).symm.trans H; rw [hy106]; with_reducible exact H2_) | (have H2_ := (Option.bind_some _ _).symm.trans H; with_reducible exact H2_) | with_reducible exact H | (rw [hy106]; exact H) | exact H
    have Ny106 := Aside0.mk hy106
    clear hy106
    replace H := Option.bind_eq_some_iff.mp H
    obtain ⟨⟨t109, t110, t111⟩, A40, H⟩ := H
    replace H : (spec_l8DrawBoth.l0 k t101 y106 t109 0 s0_0 t110 t111) = some (r1, r2, r3, r4) := H
    have A4 := Aside0.mk A40
    clear A40
    have H' := Aside0.mk H
    clear H
    go_enter Try.func29, Try.ntmps29
    go_wp2_with (first | ((with_reducible refine gate_callee (f := 42) rfl ?_); refine gL (some 9) Try.func42 #[.pointer (some ⟨g, 0, none⟩)] ?_; (with_reducible refine (spec_l3DrawList.calls k g s0_0 s0_1 s0_2 t101 t104 t105 w0 _ ?side1 ?side2 A2.out).mono ?_); (case side1 => exact iq56 HI0); (case side2 => exact bqs HB (IsS56.ge HI0.out)); rintro e w5 ⟨v102, rfl, ho0, hi, hb, hk⟩; refine ⟨_, rfl, ?_⟩; have n0_ := aM (Kd.R_lower ho0 (keep_size (w := w) (g := g) (row := none) (kk HK))); have n1_ := aM (KeepBut.trans (kk HK) hk (.inl rfl)); have n2_ := aM (hb); have n3_ := aM (hi); clear HK HB HI0; have HO103 := n0_; have HK := n1_; have HB := n2_; have HI0 := n3_; clear n0_ n1_ n2_ n3_; (try clear hb); (try clear hb2); (try clear hk); (try clear hi); (try clear ho0)) | ((with_reducible refine gate_dst (N := 10) rfl ?_); (try (refine gate_guard (by rfl) ?_; dsimp only)); refine Kd.S_make k41 _ 41 rfl (N := 10) rfl 25 _ _ rfl 3 rfl rfl Try.underlying25 (.agg #[(.int .i64 0), (.slice none 0 0)]) 32 info41 rfl (by decide) (by omega) z41 (ok := fun _ => True) (okp := fun _ => True) (k41_mkM _ _ _ z41 (Kd.R_nil _ _ _ _ _)) (fun _ hk => hk) trivial (by omega) (by omega) (Below.refl _ _) (Nat.le_refl _) ?_; intro v107 w6 ho7 hb hg_ hnew_; clear hg_ hnew_; (first | rw [← Ny106.out] at ho7 | (simp only [Int.reduceToNat] at ho7; rw [← Ny106.out] at ho7)); have n0_ := aM (Kd.R_below (rq HO103) hb); have n1_ := aM (Kd.S_lower ho7 (keep_size (w := w) (g := g) (row := none) (kk HK))); have n2_ := aM (IsS56.below (iq56 HI0) hb); have n3_ := aM (KeepBut.trans (kk HK) (KeepBut.of_below hb g none) (.inl rfl)); have n4_ := aM (below_step (bqs HB (IsS56.ge HI0.out)) hb); clear HO103 HI0 HK HB; have HO103 := n0_; have HO108 := n1_; have HI0 := n2_; have HK := n3_; have HB := n4_; clear n0_ n1_ n2_ n3_ n4_; clear hb ho7) | ((with_reducible refine gate_callee (f := 30) rfl ?_); refine gL (some 12) Try.func30 #[.pointer (some ⟨g, 0, none⟩), .int .i64 8] ?_; (with_reducible refine (spec_l1Below.calls g s0_0 t104 t105 8 t109 t110 t111 w0 _ ?side1 ?side2 A4.out).mono ?_); (case side1 => exact iq56 HI0); (case side2 => exact bqs HB (IsS56.ge HI0.out)); rintro e w8 ⟨rfl, hi, hb, hk⟩; refine ⟨_, rfl, ?_⟩; have n0_ := aM (Kd.R_mono (Kd.R_keep (IsS56.apart (show IsS56 w0 _ g s0_0 t104 t105 from iq56 HI0) (rq HO103) (by decide)) hk (fun _ h => h.2)) (fun _ h => h.1)); have n1_ := aM (Kd.S_mono (Kd.S_keep (IsS56.apartS (show IsS56 w0 _ g s0_0 t104 t105 from iq56 HI0) (sq HO108) (by decide)) hk (fun _ h => h.2)) (fun _ h => h.1)); have n2_ := aM (KeepBut.trans (kk HK) hk (.inl rfl)); have n3_ := aM (hb); have n4_ := aM (hi); clear HO103 HO108 HK HB HI0; have HO103 := n0_; have HO108 := n1_; have HK := n2_; have HB := n3_; have HI0 := n4_; clear n0_ n1_ n2_ n3_ n4_; (try clear hb); (try clear hb2); (try clear hk); (try clear hi)))
    go_loopg [5, 7] k (fun kq v5 v7 w' => ∃ (x5_1 : List (S41)) (x7_1 : Int) (x1001_1 : Int) (x1002_1 : Int), v7 = .int .i64 x7_1 ∧ Aside0 (spec_l8DrawBoth.l0 kq t101 x5_1 t109 x7_1 s0_0 x1001_1 x1002_1 = some (r1, r2, r3, r4)) ∧ Aside0 (kq ≤ k) ∧ Aside0 (Kd.R k32 32 w' w.heap.size (fun _ => True) v102 t101) ∧ Aside0 (Kd.S k41 41 w' w.heap.size (fun _ => True) v5 x5_1) ∧ Aside0 (IsS56 w0 w' g s0_0 x1001_1 x1002_1) ∧ Aside0 (KeepBut w w' g none) ∧ Aside0 (Below w0.heap.size w0 w'))
    case atStart => exact ⟨(y106), (0), (t110), (t111), sQ, H', ⟨Nat.le_refl _⟩, ⟨rq HO103⟩, ⟨sq HO108⟩, ⟨iq56 HI0⟩, ⟨kk HK⟩, ⟨bqs HB (IsS56.ge HI0.out)⟩⟩
    case round =>
      clear H'
      try clear c2
      try clear p2
      try clear c3
      try clear c3b0
      try clear c3b1
      try clear c4
      obtain ⟨x5_1, x7_1, x1001_1, x1002_1, rfl, HA, HK1, HO_4, HO_5, HI0, HK, HB⟩ := hrel
      cases gk with
      | zero => exact absurd HA.out (by simp [spec_l8DrawBoth.l0])
      | succ k1 =>
        have H := HA.out
        clear HA
        simp only [spec_l8DrawBoth.l0] at H
        have HC9 := Aside0.mk H
        clear H
        go_upto_region 5 with (fail)
        go_cut [20] (fun v20 wc => ∃ (kq : Nat) (x20_8 : Bool), v20 = .bool x20_8 ∧ Aside0 (spec_l8DrawBoth.j1 kq t101 x5_1 t109 x7_1 x20_8 s0_0 x1001_1 x1002_1 = some (r1, r2, r3, r4)) ∧ Aside0 (kq ≤ k1) ∧ Aside0 (Kd.R k32 32 wc w.heap.size (fun _ => True) v102 t101) ∧ Aside0 (Kd.S k41 41 wc w.heap.size (fun _ => True) u5 x5_1) ∧ Aside0 (IsS56 w0 wc g s0_0 x1001_1 x1002_1) ∧ Aside0 (KeepBut w wc g none) ∧ Aside0 (Below w0.heap.size w0 wc))
        case first =>
          have H := HC9.out
          clear HC9
          by_cases c10 : x7_1 < t109
          · rw [if_pos c10] at H
            have c10b0 : decide (x7_1 < t109) = true := decide_eq_true c10
            clear c10
            (first | rw [c10b0] | (simp only [i64_w, i32_w]; rw [c10b0]) | skip)
            have H' := Aside0.mk H
            clear H
            obtain ⟨Ao11, co11, eo11⟩ := Kd.R_slice HO_4.out
            subst eo11
            go_wp2
            go_meet
            case rel => exact ⟨_, (decide ((t101.length : Int) > 0)), sQ, H', ⟨by have := HK1.out; first | omega | exact Nat.le_refl _⟩, ⟨rq HO_4⟩, ⟨sq HO_5⟩, ⟨iq56 HI0⟩, ⟨kk HK⟩, ⟨bqs HB (IsS56.ge HI0.out)⟩⟩
          rw [if_neg c10] at H
          have c10b0 : decide (x7_1 < t109) = false := decide_eq_false c10
          clear c10
          (first | rw [c10b0] | (simp only [i64_w, i32_w]; rw [c10b0]) | skip)
          have H' := Aside0.mk H
          clear H
          go_wp2
          go_meet
          case rel => exact ⟨_, (false), sQ, H', ⟨by have := HK1.out; first | omega | exact Nat.le_refl _⟩, ⟨rq HO_4⟩, ⟨sq HO_5⟩, ⟨iq56 HI0⟩, ⟨kk HK⟩, ⟨bqs HB (IsS56.ge HI0.out)⟩⟩
        case rest =>
          clear HC9
          try clear c1
          try clear c2
          try clear p2
          try clear c3
          try clear c3b0
          try clear c3b1
          try clear c4
          try clear c10
          try clear c10b0
          try clear p2
          obtain ⟨kq, x20_8, rfl, HA, HJ8, HO_4, HO_5, HI0, HK, HB⟩ := hcut
          cases kq with
          | zero => exact absurd HA.out (by simp [spec_l8DrawBoth.j1])
          | succ kj8 =>
            have H := HA.out
            clear HA
            simp only [spec_l8DrawBoth.j1] at H
            by_cases c12 : x20_8 = true
            · subst c12
              have H1 : ((spec_l1Below.f s0_0 x1001_1 x1002_1 3).bind fun bt112 => ((spec_l1Below.f s0_0 bt112.2.1 bt112.2.2 (t101.length : Int)).bind fun bt115 => (if 0 ≤ bt115.1 then (if bt115.1 < (t101.length : Int) then ((spec_LockAsk.f kj8 x5_1 bt112.1 ((rd_T32 t101 bt115.1).f0)).bind fun bt119 => (spec_l8DrawBoth.l0 kj8 t101 bt119.1 t109 (wrap64 (x7_1 + 1)) s0_0 bt115.2.1 bt115.2.2)) else (none)) else (none)))) = some (r1, r2, r3, r4) := by rw [if_pos rfl] at H; exact H
              clear H
              have H := H1
              clear H1
              replace H := Option.bind_eq_some_iff.mp H
              obtain ⟨⟨t112, t113, t114⟩, A130, H⟩ := H
              replace H : ((spec_l1Below.f s0_0 t113 t114 (t101.length : Int)).bind fun bt115 => (if 0 ≤ bt115.1 then (if bt115.1 < (t101.length : Int) then ((spec_LockAsk.f kj8 x5_1 t112 ((rd_T32 t101 bt115.1).f0)).bind fun bt119 => (spec_l8DrawBoth.l0 kj8 t101 bt119.1 t109 (wrap64 (x7_1 + 1)) s0_0 bt115.2.1 bt115.2.2)) else (none)) else (none))) = some (r1, r2, r3, r4) := H
              have A13 := Aside0.mk A130
              clear A130
              replace H := Option.bind_eq_some_iff.mp H
              obtain ⟨⟨t115, t116, t117⟩, A140, H⟩ := H
              replace H : (if 0 ≤ t115 then (if t115 < (t101.length : Int) then ((spec_LockAsk.f kj8 x5_1 t112 ((rd_T32 t101 t115).f0)).bind fun bt119 => (spec_l8DrawBoth.l0 kj8 t101 bt119.1 t109 (wrap64 (x7_1 + 1)) s0_0 t116 t117)) else (none)) else (none)) = some (r1, r2, r3, r4) := H
              have A14 := Aside0.mk A140
              clear A140
              by_cases c15 : 0 ≤ t115
              · rw [if_pos c15] at H
                have c15b0 : decide (0 ≤ t115) = true := decide_eq_true c15
                clear c15
                by_cases c16 : t115 < (t101.length : Int)
                · rw [if_pos c16] at H
                  have c16b0 : decide (t115 < (t101.length : Int)) = true := decide_eq_true c16
                  clear c16
                  replace H := Option.bind_eq_some_iff.mp H
                  obtain ⟨⟨t119, t120⟩, A170, H⟩ := H
                  replace H : (spec_l8DrawBoth.l0 kj8 t101 t119 t109 (wrap64 (x7_1 + 1)) s0_0 t116 t117) = some (r1, r2, r3, r4) := H
                  have A17 := Aside0.mk A170
                  clear A170
                  have H' := Aside0.mk H
                  clear H
                  go_wp2_with (first | ((with_reducible refine gate_callee (f := 30) rfl ?_); refine gL (some 26) Try.func30 #[.pointer (some ⟨g, 0, none⟩), .int .i64 3] ?_; (with_reducible refine (spec_l1Below.calls g s0_0 x1001_1 x1002_1 3 t112 t113 t114 w0 _ ?side1 ?side2 A13.out).mono ?_); (case side1 => exact iq56 HI0); (case side2 => exact bqs HB (IsS56.ge HI0.out)); rintro e w18 ⟨rfl, hi, hb, hk⟩; refine ⟨_, rfl, ?_⟩; have n0_ := aM (Kd.R_mono (Kd.R_keep (IsS56.apart (show IsS56 w0 _ g s0_0 x1001_1 x1002_1 from iq56 HI0) (rq HO_4) (by decide)) hk (fun _ h => h.2)) (fun _ h => h.1)); have n1_ := aM (Kd.S_mono (Kd.S_keep (IsS56.apartS (show IsS56 w0 _ g s0_0 x1001_1 x1002_1 from iq56 HI0) (sq HO_5) (by decide)) hk (fun _ h => h.2)) (fun _ h => h.1)); have n2_ := aM (KeepBut.trans (kk HK) hk (.inl rfl)); have n3_ := aM (hb); have n4_ := aM (hi); clear HO_4 HO_5 HK HB HI0; have HO_4 := n0_; have HO_5 := n1_; have HK := n2_; have HB := n3_; have HI0 := n4_; clear n0_ n1_ n2_ n3_ n4_; (try clear hb); (try clear hb2); (try clear hk); (try clear hi); obtain ⟨Ao19, co19, eo19⟩ := Kd.R_slice HO_4.out; subst eo19) | ((with_reducible refine gate_callee (f := 30) rfl ?_); refine gL (some 31) Try.func30 #[.pointer (some ⟨g, 0, none⟩), .int .i64 (t101.length : Int)] ?_; (with_reducible refine (spec_l1Below.calls g s0_0 t113 t114 (t101.length : Int) t115 t116 t117 w0 _ ?side1 ?side2 A14.out).mono ?_); (case side1 => exact iq56 HI0); (case side2 => exact bqs HB (IsS56.ge HI0.out)); rintro e w20 ⟨rfl, hi, hb, hk⟩; refine ⟨_, rfl, ?_⟩; have n0_ := aM (Kd.R_mono (Kd.R_keep (IsS56.apart (show IsS56 w0 _ g s0_0 t113 t114 from iq56 HI0) (rq HO_4) (by decide)) hk (fun _ h => h.2)) (fun _ h => h.1)); have n1_ := aM (Kd.S_mono (Kd.S_keep (IsS56.apartS (show IsS56 w0 _ g s0_0 t113 t114 from iq56 HI0) (sq HO_5) (by decide)) hk (fun _ h => h.2)) (fun _ h => h.1)); have n2_ := aM (KeepBut.trans (kk HK) hk (.inl rfl)); have n3_ := aM (hb); have n4_ := aM (hi); clear HO_4 HO_5 HK HB HI0; have HO_4 := n0_; have HO_5 := n1_; have HK := n2_; have HB := n3_; have HI0 := n4_; clear n0_ n1_ n2_ n3_ n4_; (try clear hb); (try clear hb2); (try clear hk); (try clear hi); have p118 : 0 ≤ (t115 : Int) := dA; have q118 : t115 < (t101.length : Int) := dA; obtain ⟨ad118, e118, hx118_0, hx118_1, hx118_2, hx118_3, hx118_4, hx118_5, hx118_6, hx118_7, hx118_8, hx118_9, hx118_10, hx118_11, hx118_12, hx118_13⟩ := at_T32 (Kd.R_reads' HO_4.out).2.2 t115 p118 q118; cases e118; replace p118 := eq_true p118; replace q118 := eq_true q118; obtain ⟨Ao21, co21, eo21⟩ := Kd.S_slice HO_5.out; subst eo21) | ((with_reducible refine gate_callee (f := 43) rfl ?_); refine gL (some 35) Try.func43 #[.slice Ao21 x5_1.length co21, .int .i64 t112, .int .i64 ((rd_T32 t101 t115).f0)] ?_; (with_reducible refine (spec_LockAsk.calls kj8 _ _ x5_1 t112 ((rd_T32 t101 t115).f0) t119 t120 _ ?side1 ?side2 A17.out).mono ?_); (case side1 => exact cq (Kd.S_reads' HO_5.out).2.2); (case side2 => exact (Kd.S_reads' HO_5.out).2.1); rintro e w22 ⟨v121, rfl, ho0, hb⟩; refine ⟨_, rfl, ?_⟩; have n0_ := aM (Kd.R_below (rq HO_4) hb); have n1_ := aM (Kd.S_elder' (sq HO_5) (Kd.S_base ho0) hb); have n2_ := aM (Kd.S_lower (Kd.S_new' ho0 (Kd.S_lt (sq HO_5))) (keep_size (w := w) (g := g) (row := none) (kk HK))); have n3_ := aM (IsS56.below (iq56 HI0) hb); have n4_ := aM (KeepBut.trans (kk HK) (KeepBut.of_below hb g none) (.inl rfl)); have n5_ := aM (below_step (bqs HB (IsS56.ge HI0.out)) hb); clear HO_4 HO_5 HI0 HK HB; have HO_4 := n0_; have HO_5 := n1_; have HO122 := n2_; have HI0 := n3_; have HK := n4_; have HB := n5_; clear n0_ n1_ n2_ n3_ n4_ n5_; (try clear hb); (try clear hb2); (try clear hk); (try clear hi); (try clear ho0)))
                  go_roundg kj8
                  case measure => have := HK1.out; have := HJ8.out; omega
                  case rel => exact ⟨(t119), (wrap64 (x7_1 + 1)), (t116), (t117), sQ, H', ⟨by have := HK1.out; have := HJ8.out; omega⟩, ⟨rq HO_4⟩, ⟨by (with_reducible repeat (first | apply Kd.S_alloc | apply Kd.S_drewN | apply Kd.S_drew)); exact Kd.S_mono HO122.out (fun _ hk => trivial)⟩, ⟨iq56 HI0⟩, ⟨kk HK⟩, ⟨bqs HB (IsS56.ge HI0.out)⟩⟩
                rw [if_neg c16] at H
                exact absurd H (by simp)
              rw [if_neg c15] at H
              exact absurd H (by simp)
            replace c12 := Bool.eq_false_iff.mpr c12
            subst c12
            have H1 : (if (x5_1.length : Int) = 0 then ((spec_l7Draw.f kj8 s0_0 x1001_1 x1002_1).bind fun bt123 => (some (t101, bt123.1, bt123.2.1, bt123.2.2))) else ((spec_l1Once.f s0_0 x1001_1 x1002_1 8).bind fun bt128 => (if bt128.1 = true then ((spec_l7Draw.f kj8 s0_0 bt128.2.1 bt128.2.2).bind fun bt131 => (some (t101, bt131.1, bt131.2.1, bt131.2.2))) else (some (t101, x5_1, bt128.2.1, bt128.2.2))))) = some (r1, r2, r3, r4) := by rw [if_neg (show ¬ (false = true) by decide)] at H; exact H
            clear H
            have H := H1
            clear H1
            by_cases c23 : (x5_1.length : Int) = 0
            · rw [if_pos c23] at H
              have c23b0 : ((x5_1.length : Int) == 0) = true := beq_iff_eq.mpr c23
              have c23b1 : ((x5_1.length : Int) != 0) = false := bne_eq_false_iff_eq.mpr c23
              clear c23
              replace H := Option.bind_eq_some_iff.mp H
              obtain ⟨⟨t123, t126, t127⟩, A240, H⟩ := H
              replace H : (some (t101, t123, t126, t127)) = some (r1, r2, r3, r4) := H
              have A24 := Aside0.mk A240
              clear A240
              simp only [Option.some.injEq, Prod.mk.injEq] at H
              obtain ⟨rfl, rfl, rfl, rfl⟩ := H
              obtain ⟨Ao25, co25, eo25⟩ := Kd.S_slice HO_5.out
              subst eo25
              go_wp2_with (first | ((with_reducible refine gate_callee (f := 44) rfl ?_); refine gL (some 46) Try.func44 #[.pointer (some ⟨g, 0, none⟩)] ?_; (with_reducible refine (spec_l7Draw.calls kj8 g s0_0 x1001_1 x1002_1 t123 t126 t127 w0 _ ?side1 ?side2 A24.out).mono ?_); (case side1 => exact iq56 HI0); (case side2 => exact bqs HB (IsS56.ge HI0.out)); rintro e w26 ⟨v124, rfl, ho0, hi, hb, hk⟩; refine ⟨_, rfl, ?_⟩; have n0_ := aM (Kd.R_mono (Kd.R_keep (IsS56.apart (show IsS56 w0 _ g s0_0 x1001_1 x1002_1 from iq56 HI0) (rq HO_4) (by decide)) hk (fun _ h => h.2)) (fun _ h => h.1)); have n1_ := aM (Kd.S_mono (Kd.S_told (Kd.S_oldK (IsS56.apartS (show IsS56 w0 _ g s0_0 x1001_1 x1002_1 from iq56 HI0) (sq HO_5) (by decide)) hk) (Kd.S_base ho0)) (fun _ h_ => h_.1)); have n2_ := aM (Kd.S_lower (Kd.S_new' ho0 (Kd.S_lt (sq HO_5))) (keep_size (w := w) (g := g) (row := none) (kk HK))); have n3_ := aM (KeepBut.trans (kk HK) hk (.inl rfl)); have n4_ := aM (hb); have n5_ := aM (hi); clear HO_4 HO_5 HK HB HI0; have HO_4 := n0_; have HO_5 := n1_; have HO125 := n2_; have HK := n3_; have HB := n4_; have HI0 := n5_; clear n0_ n1_ n2_ n3_ n4_ n5_; (try clear hb); (try clear hb2); (try clear hk); (try clear hi); (try clear ho0)))
              go_ret2
              exact ⟨_, _, sR, by (with_reducible repeat (first | apply Kd.R_alloc | apply Kd.R_drewN | apply Kd.R_drew)); exact HO_4.out, by (with_reducible repeat (first | apply Kd.S_alloc | apply Kd.S_drewN | apply Kd.S_drew)); exact Kd.S_mono HO125.out (fun _ hk => trivial), iq56 HI0, bqs HB (IsS56.ge HI0.out), kk HK⟩
            rw [if_neg c23] at H
            have c23b0 : ((x5_1.length : Int) == 0) = false := beq_eq_false_iff_ne.mpr c23
            have c23b1 : ((x5_1.length : Int) != 0) = true := bne_iff_ne.mpr c23
            have c23b2 : ¬ (x5_1 = []) := fun h_ => c23 (by rw [h_]; rfl)
            replace H := Option.bind_eq_some_iff.mp H
            obtain ⟨⟨t128, t129, t130⟩, A270, H⟩ := H
            replace H : (if t128 = true then ((spec_l7Draw.f kj8 s0_0 t129 t130).bind fun bt131 => (some (t101, bt131.1, bt131.2.1, bt131.2.2))) else (some (t101, x5_1, t129, t130))) = some (r1, r2, r3, r4) := H
            have A27 := Aside0.mk A270
            clear A270
            by_cases c28 : t128 = true
            · subst c28
              have H1 : ((spec_l7Draw.f kj8 s0_0 t129 t130).bind fun bt131 => (some (t101, bt131.1, bt131.2.1, bt131.2.2))) = some (r1, r2, r3, r4) := by rw [if_pos rfl] at H; exact H
              clear H
              have H := H1
              clear H1
              replace H := Option.bind_eq_some_iff.mp H
              obtain ⟨⟨t131, t134, t135⟩, A290, H⟩ := H
              replace H : (some (t101, t131, t134, t135)) = some (r1, r2, r3, r4) := H
              have A29 := Aside0.mk A290
              clear A290
              simp only [Option.some.injEq, Prod.mk.injEq] at H
              obtain ⟨rfl, rfl, rfl, rfl⟩ := H
              obtain ⟨Ao30, co30, eo30⟩ := Kd.S_slice HO_5.out
              subst eo30
              go_wp2_with (first | (go_at_call 31; (with_reducible refine (spec_l1Once.calls g s0_0 x1001_1 x1002_1 8 true t129 t130 w0 _ ?side1 ?side2 A27.out).mono ?_); (case side1 => exact iq56 HI0); (case side2 => exact bqs HB (IsS56.ge HI0.out)); rintro e w31 ⟨rfl, hi, hb, hk⟩; have n0_ := aM (Kd.R_mono (Kd.R_keep (IsS56.apart (show IsS56 w0 _ g s0_0 x1001_1 x1002_1 from iq56 HI0) (rq HO_4) (by decide)) hk (fun _ h => h.2)) (fun _ h => h.1)); have n1_ := aM (Kd.S_mono (Kd.S_keep (IsS56.apartS (show IsS56 w0 _ g s0_0 x1001_1 x1002_1 from iq56 HI0) (sq HO_5) (by decide)) hk (fun _ h => h.2)) (fun _ h => h.1)); have n2_ := aM (KeepBut.trans (kk HK) hk (.inl rfl)); have n3_ := aM (hb); have n4_ := aM (hi); clear HO_4 HO_5 HK HB HI0; have HO_4 := n0_; have HO_5 := n1_; have HK := n2_; have HB := n3_; have HI0 := n4_; clear n0_ n1_ n2_ n3_ n4_; (try clear hb); (try clear hb2); (try clear hk); (try clear hi)) | ((with_reducible refine gate_callee (f := 44) rfl ?_); refine gL (some 46) Try.func44 #[.pointer (some ⟨g, 0, none⟩)] ?_; (with_reducible refine (spec_l7Draw.calls kj8 g s0_0 t129 t130 t131 t134 t135 w0 _ ?side1 ?side2 A29.out).mono ?_); (case side1 => exact iq56 HI0); (case side2 => exact bqs HB (IsS56.ge HI0.out)); rintro e w32 ⟨v132, rfl, ho0, hi, hb, hk⟩; refine ⟨_, rfl, ?_⟩; have n0_ := aM (Kd.R_mono (Kd.R_keep (IsS56.apart (show IsS56 w0 _ g s0_0 t129 t130 from iq56 HI0) (rq HO_4) (by decide)) hk (fun _ h => h.2)) (fun _ h => h.1)); have n1_ := aM (Kd.S_mono (Kd.S_told (Kd.S_oldK (IsS56.apartS (show IsS56 w0 _ g s0_0 t129 t130 from iq56 HI0) (sq HO_5) (by decide)) hk) (Kd.S_base ho0)) (fun _ h_ => h_.1)); have n2_ := aM (Kd.S_lower (Kd.S_new' ho0 (Kd.S_lt (sq HO_5))) (keep_size (w := w) (g := g) (row := none) (kk HK))); have n3_ := aM (KeepBut.trans (kk HK) hk (.inl rfl)); have n4_ := aM (hb); have n5_ := aM (hi); clear HO_4 HO_5 HK HB HI0; have HO_4 := n0_; have HO_5 := n1_; have HO133 := n2_; have HK := n3_; have HB := n4_; have HI0 := n5_; clear n0_ n1_ n2_ n3_ n4_ n5_; (try clear hb); (try clear hb2); (try clear hk); (try clear hi); (try clear ho0)))
              go_ret2
              exact ⟨_, _, sR, by (with_reducible repeat (first | apply Kd.R_alloc | apply Kd.R_drewN | apply Kd.R_drew)); exact HO_4.out, by (with_reducible repeat (first | apply Kd.S_alloc | apply Kd.S_drewN | apply Kd.S_drew)); exact Kd.S_mono HO133.out (fun _ hk => trivial), iq56 HI0, bqs HB (IsS56.ge HI0.out), kk HK⟩
            replace c28 := Bool.eq_false_iff.mpr c28
            subst c28
            have H1 : (some (t101, x5_1, t129, t130)) = some (r1, r2, r3, r4) := by rw [if_neg (show ¬ (false = true) by decide)] at H; exact H
            clear H
            have H := H1
            clear H1
            simp only [Option.some.injEq, Prod.mk.injEq] at H
            obtain ⟨rfl, rfl, rfl, rfl⟩ := H
            obtain ⟨Ao33, co33, eo33⟩ := Kd.S_slice HO_5.out
            subst eo33
            go_wp2_with (first | (go_at_call 31; (with_reducible refine (spec_l1Once.calls g s0_0 x1001_1 x1002_1 8 false t129 t130 w0 _ ?side1 ?side2 A27.out).mono ?_); (case side1 => exact iq56 HI0); (case side2 => exact bqs HB (IsS56.ge HI0.out)); rintro e w34 ⟨rfl, hi, hb, hk⟩; have n0_ := aM (Kd.R_mono (Kd.R_keep (IsS56.apart (show IsS56 w0 _ g s0_0 x1001_1 x1002_1 from iq56 HI0) (rq HO_4) (by decide)) hk (fun _ h => h.2)) (fun _ h => h.1)); have n1_ := aM (Kd.S_mono (Kd.S_keep (IsS56.apartS (show IsS56 w0 _ g s0_0 x1001_1 x1002_1 from iq56 HI0) (sq HO_5) (by decide)) hk (fun _ h => h.2)) (fun _ h => h.1)); have n2_ := aM (KeepBut.trans (kk HK) hk (.inl rfl)); have n3_ := aM (hb); have n4_ := aM (hi); clear HO_4 HO_5 HK HB HI0; have HO_4 := n0_; have HO_5 := n1_; have HK := n2_; have HB := n3_; have HI0 := n4_; clear n0_ n1_ n2_ n3_ n4_; (try clear hb); (try clear hb2); (try clear hk); (try clear hi)))
            go_ret2
            exact ⟨_, _, sR, by (with_reducible repeat (first | apply Kd.R_alloc | apply Kd.R_drewN | apply Kd.R_drew)); exact HO_4.out, by (with_reducible repeat (first | apply Kd.S_alloc | apply Kd.S_drewN | apply Kd.S_drew)); exact HO_5.out, iq56 HI0, bqs HB (IsS56.ge HI0.out), kk HK⟩
  rw [if_neg c3] at H
  exact absurd H (by simp)

/-! ### spec_l8DrawOne: function 14 -/
def spec_l8DrawOne.f (k : Nat) (l0 : List Int) : Option ((List (S32)) × (List (S41)) × Int) := (spec_l1New.f k l0).bind fun bt101 => ((spec_l8DrawBoth.f k bt101.1 bt101.2.1 bt101.2.2).bind fun bt105 => ((spec_l1Below.f bt101.1 bt105.2.2.1 bt105.2.2.2 12).bind fun bt113 => (if (bt105.1.length : Int) > 0 then ((spec_l1Once.f bt101.1 bt113.2.1 bt113.2.2 5).bind fun bt116 => (if bt116.1 = true then (some (bt105.1, bt105.2.1, bt113.1)) else ((spec_l1Below.f bt101.1 bt116.2.1 bt116.2.2 (bt105.1.length : Int)).bind fun bt119 => (if 0 ≤ bt119.1 then (if bt119.1 < (bt105.1.length : Int) then (some (bt105.1, bt105.2.1, (rd_T32 bt105.1 bt119.1).f0)) else (none)) else (none))))) else (some (bt105.1, bt105.2.1, bt113.1)))))
theorem spec_l8DrawOne.mono : ∀ a0 k, LeO (spec_l8DrawOne.f k a0) (spec_l8DrawOne.f (k + 1) a0) := by
  intro a0 k
  unfold spec_l8DrawOne.f
  repeat' first
      | (with_reducible exact spec_l1New.mono _ _)
      | (with_reducible exact spec_l8DrawBoth.mono _ _ _ _)
      | (with_reducible exact LeO.refl _)
      | (with_reducible exact LeO.none _)
      | (with_reducible refine LeO.ite ?_ ?_)
      | (with_reducible refine LeO.bind ?_ (fun _ => ?_))
set_option maxHeartbeats 8000000 in
set_option maxRecDepth 100000 in
theorem spec_l8DrawOne.calls (k : Nat) (A0 : Option Addr) (c0 : Nat) (l0 : List Int) (r1 : List (S32)) (r2 : List (S41)) (r3 : Int) (w : World) (hr0 : Kd.C (Kd.int .u8) w A0 l0.length l0) (hc0 : l0.length ≤ c0) (h : spec_l8DrawOne.f k l0 = some (r1, r2, r3)) :
    Calls Try.prog 14 #[.slice A0 l0.length c0] w fun e w' => ∃ v0_ v1_ : Value, e = .returned (.tuple #[v0_, v1_, .int .i64 r3]) ∧ Kd.R k32 32 w' w.heap.size (fun _ => True) v0_ r1 ∧ Kd.S k41 41 w' w.heap.size (fun _ => True) v1_ r2 ∧ Below w.heap.size w w' := by
  have HR0 := Aside0.mk hr0
  have HC0 := Aside0.mk hc0
  clear hr0 hc0
  have HB := aM (Below.refl w.heap.size w)
  have H : ((spec_l1New.f k l0).bind fun bt101 => ((spec_l8DrawBoth.f k bt101.1 bt101.2.1 bt101.2.2).bind fun bt105 => ((spec_l1Below.f bt101.1 bt105.2.2.1 bt105.2.2.2 12).bind fun bt113 => (if (bt105.1.length : Int) > 0 then ((spec_l1Once.f bt101.1 bt113.2.1 bt113.2.2 5).bind fun bt116 => (if bt116.1 = true then (some (bt105.1, bt105.2.1, bt113.1)) else ((spec_l1Below.f bt101.1 bt116.2.1 bt116.2.2 (bt105.1.length : Int)).bind fun bt119 => (if 0 ≤ bt119.1 then (if bt119.1 < (bt105.1.length : Int) then (some (bt105.1, bt105.2.1, (rd_T32 bt105.1 bt119.1).f0)) else (none)) else (none))))) else (some (bt105.1, bt105.2.1, bt113.1)))))) = some (r1, r2, r3) := h
  clear h
  replace H := Option.bind_eq_some_iff.mp H
  obtain ⟨⟨t101, t102, t103⟩, A20, H⟩ := H
  replace H : ((spec_l8DrawBoth.f k t101 t102 t103).bind fun bt105 => ((spec_l1Below.f t101 bt105.2.2.1 bt105.2.2.2 12).bind fun bt113 => (if (bt105.1.length : Int) > 0 then ((spec_l1Once.f t101 bt113.2.1 bt113.2.2 5).bind fun bt116 => (if bt116.1 = true then (some (bt105.1, bt105.2.1, bt113.1)) else ((spec_l1Below.f t101 bt116.2.1 bt116.2.2 (bt105.1.length : Int)).bind fun bt119 => (if 0 ≤ bt119.1 then (if bt119.1 < (bt105.1.length : Int) then (some (bt105.1, bt105.2.1, (rd_T32 bt105.1 bt119.1).f0)) else (none)) else (none))))) else (some (bt105.1, bt105.2.1, bt113.1))))) = some (r1, r2, r3) := H
  have A2 := Aside0.mk A20
  clear A20
  replace H := Option.bind_eq_some_iff.mp H
  obtain ⟨⟨t105, t108, t111, t112⟩, A30, H⟩ := H
  replace H : ((spec_l1Below.f t101 t111 t112 12).bind fun bt113 => (if (t105.length : Int) > 0 then ((spec_l1Once.f t101 bt113.2.1 bt113.2.2 5).bind fun bt116 => (if bt116.1 = true then (some (t105, t108, bt113.1)) else ((spec_l1Below.f t101 bt116.2.1 bt116.2.2 (t105.length : Int)).bind fun bt119 => (if 0 ≤ bt119.1 then (if bt119.1 < (t105.length : Int) then (some (t105, t108, (rd_T32 t105 bt119.1).f0)) else (none)) else (none))))) else (some (t105, t108, bt113.1)))) = some (r1, r2, r3) := H
  have A3 := Aside0.mk A30
  clear A30
  replace H := Option.bind_eq_some_iff.mp H
  obtain ⟨⟨t113, t114, t115⟩, A40, H⟩ := H
  replace H : (if (t105.length : Int) > 0 then ((spec_l1Once.f t101 t114 t115 5).bind fun bt116 => (if bt116.1 = true then (some (t105, t108, t113)) else ((spec_l1Below.f t101 bt116.2.1 bt116.2.2 (t105.length : Int)).bind fun bt119 => (if 0 ≤ bt119.1 then (if bt119.1 < (t105.length : Int) then (some (t105, t108, (rd_T32 t105 bt119.1).f0)) else (none)) else (none))))) else (some (t105, t108, t113))) = some (r1, r2, r3) := H
  have A4 := Aside0.mk A40
  clear A40
  by_cases c5 : (t105.length : Int) > 0
  · rw [if_pos c5] at H
    have c5b0 : decide (0 < (t105.length : Int)) = true := decide_eq_true c5
    have c5b1 : decide (0 < t105.length) = true := decide_eq_true (by omega)
    clear c5
    replace H := Option.bind_eq_some_iff.mp H
    obtain ⟨⟨t116, t117, t118⟩, A60, H⟩ := H
    replace H : (if t116 = true then (some (t105, t108, t113)) else ((spec_l1Below.f t101 t117 t118 (t105.length : Int)).bind fun bt119 => (if 0 ≤ bt119.1 then (if bt119.1 < (t105.length : Int) then (some (t105, t108, (rd_T32 t105 bt119.1).f0)) else (none)) else (none)))) = some (r1, r2, r3) := H
    have A6 := Aside0.mk A60
    clear A60
    by_cases c7 : t116 = true
    · subst c7
      have H1 : (some (t105, t108, t113)) = some (r1, r2, r3) := by rw [if_pos rfl] at H; exact H
      clear H
      have H := H1
      clear H1
      simp only [Option.some.injEq, Prod.mk.injEq] at H
      obtain ⟨rfl, rfl, rfl⟩ := H
      go_enter Try.func14, Try.ntmps14
      go_wp2_with (first | ((with_reducible refine gate_callee (f := 28) rfl ?_); refine gL (some 10) Try.func28 #[.slice A0 l0.length c0] ?_; (with_reducible refine (spec_l1New.calls k _ _ l0 t101 t102 t103 w _ ?side1 ?side2 ?side3 A2.out).mono ?_); (case side1 => exact bq HB); (case side2 => exact HR0.out); (case side3 => exact HC0.out); rintro e w8 ⟨g104, rfl, hi, hb, hb2⟩; refine ⟨_, rfl, ?_⟩; have n0_ := aM (hb); have n1_ := aM (hi); clear HB; have HB := n0_; have HI104 := n1_; clear n0_ n1_; (try clear hb); (try clear hb2); (try clear hk); (try clear hi)) | ((with_reducible refine gate_callee (f := 29) rfl ?_); refine gL (some 13) Try.func29 #[.pointer (some ⟨g104, 0, none⟩)] ?_; (with_reducible refine (spec_l8DrawBoth.calls k g104 t101 t102 t103 t105 t108 t111 t112 w _ ?side1 ?side2 A3.out).mono ?_); (case side1 => exact iq56 HI104); (case side2 => exact bqs HB (IsS56.ge HI104.out)); rintro e w9 ⟨v106, v109, rfl, ho0, ho1, hi, hb, hk⟩; refine ⟨_, rfl, ?_⟩; have n0_ := aM (Kd.R_lower ho0 (below_size (bqs HB (IsS56.ge HI104.out)))); have n1_ := aM (Kd.S_lower ho1 (below_size (bqs HB (IsS56.ge HI104.out)))); have n2_ := aM (hb); have n3_ := aM (hi); clear HB HI104; have HO107 := n0_; have HO110 := n1_; have HB := n2_; have HI104 := n3_; clear n0_ n1_ n2_ n3_; (try clear hb); (try clear hb2); (try clear hk); (try clear hi); (try clear ho0); (try clear ho1)) | ((with_reducible refine gate_callee (f := 30) rfl ?_); refine gL (some 17) Try.func30 #[.pointer (some ⟨g104, 0, none⟩), .int .i64 12] ?_; (with_reducible refine (spec_l1Below.calls g104 t101 t111 t112 12 t113 t114 t115 w _ ?side1 ?side2 A4.out).mono ?_); (case side1 => exact iq56 HI104); (case side2 => exact bqs HB (IsS56.ge HI104.out)); rintro e w10 ⟨rfl, hi, hb, hk⟩; refine ⟨_, rfl, ?_⟩; have n0_ := aM (Kd.R_mono (Kd.R_keep (IsS56.apart (show IsS56 w _ g104 t101 t111 t112 from iq56 HI104) (rq HO107) (by decide)) hk (fun _ h => h.2)) (fun _ h => h.1)); have n1_ := aM (Kd.S_mono (Kd.S_keep (IsS56.apartS (show IsS56 w _ g104 t101 t111 t112 from iq56 HI104) (sq HO110) (by decide)) hk (fun _ h => h.2)) (fun _ h => h.1)); have n2_ := aM (hb); have n3_ := aM (hi); clear HO107 HO110 HB HI104; have HO107 := n0_; have HO110 := n1_; have HB := n2_; have HI104 := n3_; clear n0_ n1_ n2_ n3_; (try clear hb); (try clear hb2); (try clear hk); (try clear hi); obtain ⟨Ao11, co11, eo11⟩ := Kd.R_slice HO107.out; subst eo11) | (go_at_call 31; (with_reducible refine (spec_l1Once.calls g104 t101 t114 t115 5 true t117 t118 w _ ?side1 ?side2 A6.out).mono ?_); (case side1 => exact iq56 HI104); (case side2 => exact bqs HB (IsS56.ge HI104.out)); rintro e w12 ⟨rfl, hi, hb, hk⟩; have n0_ := aM (Kd.R_mono (Kd.R_keep (IsS56.apart (show IsS56 w _ g104 t101 t114 t115 from iq56 HI104) (rq HO107) (by decide)) hk (fun _ h => h.2)) (fun _ h => h.1)); have n1_ := aM (Kd.S_mono (Kd.S_keep (IsS56.apartS (show IsS56 w _ g104 t101 t114 t115 from iq56 HI104) (sq HO110) (by decide)) hk (fun _ h => h.2)) (fun _ h => h.1)); have n2_ := aM (hb); have n3_ := aM (hi); clear HO107 HO110 HB HI104; have HO107 := n0_; have HO110 := n1_; have HB := n2_; have HI104 := n3_; clear n0_ n1_ n2_ n3_; (try clear hb); (try clear hb2); (try clear hk); (try clear hi)))
      go_ret3
      exact ⟨_, _, sR, by (with_reducible repeat (first | apply Kd.R_alloc | apply Kd.R_drewN | apply Kd.R_drew)); exact HO107.out, by (with_reducible repeat (first | apply Kd.S_alloc | apply Kd.S_drewN | apply Kd.S_drew)); exact HO110.out, bqs HB (IsS56.ge HI104.out)⟩
    replace c7 := Bool.eq_false_iff.mpr c7
    subst c7
    have H1 : ((spec_l1Below.f t101 t117 t118 (t105.length : Int)).bind fun bt119 => (if 0 ≤ bt119.1 then (if bt119.1 < (t105.length : Int) then (some (t105, t108, (rd_T32 t105 bt119.1).f0)) else (none)) else (none))) = some (r1, r2, r3) := by rw [if_neg (show ¬ (false = true) by decide)] at H; exact H
    clear H
    have H := H1
    clear H1
    replace H := Option.bind_eq_some_iff.mp H
    obtain ⟨⟨t119, t120, t121⟩, A130, H⟩ := H
    replace H : (if 0 ≤ t119 then (if t119 < (t105.length : Int) then (some (t105, t108, (rd_T32 t105 t119).f0)) else (none)) else (none)) = some (r1, r2, r3) := H
    have A13 := Aside0.mk A130
    clear A130
    by_cases c14 : 0 ≤ t119
    · rw [if_pos c14] at H
      have c14b0 : decide (0 ≤ t119) = true := decide_eq_true c14
      clear c14
      by_cases c15 : t119 < (t105.length : Int)
      · rw [if_pos c15] at H
        have c15b0 : decide (t119 < (t105.length : Int)) = true := decide_eq_true c15
        clear c15
        simp only [Option.some.injEq, Prod.mk.injEq] at H
        obtain ⟨rfl, rfl, rfl⟩ := H
        go_enter Try.func14, Try.ntmps14
        go_wp2_with (first | ((with_reducible refine gate_callee (f := 28) rfl ?_); refine gL (some 10) Try.func28 #[.slice A0 l0.length c0] ?_; (with_reducible refine (spec_l1New.calls k _ _ l0 t101 t102 t103 w _ ?side1 ?side2 ?side3 A2.out).mono ?_); (case side1 => exact bq HB); (case side2 => exact HR0.out); (case side3 => exact HC0.out); rintro e w16 ⟨g104, rfl, hi, hb, hb2⟩; refine ⟨_, rfl, ?_⟩; have n0_ := aM (hb); have n1_ := aM (hi); clear HB; have HB := n0_; have HI104 := n1_; clear n0_ n1_; (try clear hb); (try clear hb2); (try clear hk); (try clear hi)) | ((with_reducible refine gate_callee (f := 29) rfl ?_); refine gL (some 13) Try.func29 #[.pointer (some ⟨g104, 0, none⟩)] ?_; (with_reducible refine (spec_l8DrawBoth.calls k g104 t101 t102 t103 t105 t108 t111 t112 w _ ?side1 ?side2 A3.out).mono ?_); (case side1 => exact iq56 HI104); (case side2 => exact bqs HB (IsS56.ge HI104.out)); rintro e w17 ⟨v106, v109, rfl, ho0, ho1, hi, hb, hk⟩; refine ⟨_, rfl, ?_⟩; have n0_ := aM (Kd.R_lower ho0 (below_size (bqs HB (IsS56.ge HI104.out)))); have n1_ := aM (Kd.S_lower ho1 (below_size (bqs HB (IsS56.ge HI104.out)))); have n2_ := aM (hb); have n3_ := aM (hi); clear HB HI104; have HO107 := n0_; have HO110 := n1_; have HB := n2_; have HI104 := n3_; clear n0_ n1_ n2_ n3_; (try clear hb); (try clear hb2); (try clear hk); (try clear hi); (try clear ho0); (try clear ho1)) | ((with_reducible refine gate_callee (f := 30) rfl ?_); refine gL (some 17) Try.func30 #[.pointer (some ⟨g104, 0, none⟩), .int .i64 12] ?_; (with_reducible refine (spec_l1Below.calls g104 t101 t111 t112 12 t113 t114 t115 w _ ?side1 ?side2 A4.out).mono ?_); (case side1 => exact iq56 HI104); (case side2 => exact bqs HB (IsS56.ge HI104.out)); rintro e w18 ⟨rfl, hi, hb, hk⟩; refine ⟨_, rfl, ?_⟩; have n0_ := aM (Kd.R_mono (Kd.R_keep (IsS56.apart (show IsS56 w _ g104 t101 t111 t112 from iq56 HI104) (rq HO107) (by decide)) hk (fun _ h => h.2)) (fun _ h => h.1)); have n1_ := aM (Kd.S_mono (Kd.S_keep (IsS56.apartS (show IsS56 w _ g104 t101 t111 t112 from iq56 HI104) (sq HO110) (by decide)) hk (fun _ h => h.2)) (fun _ h => h.1)); have n2_ := aM (hb); have n3_ := aM (hi); clear HO107 HO110 HB HI104; have HO107 := n0_; have HO110 := n1_; have HB := n2_; have HI104 := n3_; clear n0_ n1_ n2_ n3_; (try clear hb); (try clear hb2); (try clear hk); (try clear hi); obtain ⟨Ao19, co19, eo19⟩ := Kd.R_slice HO107.out; subst eo19) | (go_at_call 31; (with_reducible refine (spec_l1Once.calls g104 t101 t114 t115 5 false t117 t118 w _ ?side1 ?side2 A6.out).mono ?_); (case side1 => exact iq56 HI104); (case side2 => exact bqs HB (IsS56.ge HI104.out)); rintro e w20 ⟨rfl, hi, hb, hk⟩; have n0_ := aM (Kd.R_mono (Kd.R_keep (IsS56.apart (show IsS56 w _ g104 t101 t114 t115 from iq56 HI104) (rq HO107) (by decide)) hk (fun _ h => h.2)) (fun _ h => h.1)); have n1_ := aM (Kd.S_mono (Kd.S_keep (IsS56.apartS (show IsS56 w _ g104 t101 t114 t115 from iq56 HI104) (sq HO110) (by decide)) hk (fun _ h => h.2)) (fun _ h => h.1)); have n2_ := aM (hb); have n3_ := aM (hi); clear HO107 HO110 HB HI104; have HO107 := n0_; have HO110 := n1_; have HB := n2_; have HI104 := n3_; clear n0_ n1_ n2_ n3_; (try clear hb); (try clear hb2); (try clear hk); (try clear hi)) | ((with_reducible refine gate_callee (f := 30) rfl ?_); refine gL (some 30) Try.func30 #[.pointer (some ⟨g104, 0, none⟩), .int .i64 (t105.length : Int)] ?_; (with_reducible refine (spec_l1Below.calls g104 t101 t117 t118 (t105.length : Int) t119 t120 t121 w _ ?side1 ?side2 A13.out).mono ?_); (case side1 => exact iq56 HI104); (case side2 => exact bqs HB (IsS56.ge HI104.out)); rintro e w21 ⟨rfl, hi, hb, hk⟩; refine ⟨_, rfl, ?_⟩; have n0_ := aM (Kd.R_mono (Kd.R_keep (IsS56.apart (show IsS56 w _ g104 t101 t117 t118 from iq56 HI104) (rq HO107) (by decide)) hk (fun _ h => h.2)) (fun _ h => h.1)); have n1_ := aM (Kd.S_mono (Kd.S_keep (IsS56.apartS (show IsS56 w _ g104 t101 t117 t118 from iq56 HI104) (sq HO110) (by decide)) hk (fun _ h => h.2)) (fun _ h => h.1)); have n2_ := aM (hb); have n3_ := aM (hi); clear HO107 HO110 HB HI104; have HO107 := n0_; have HO110 := n1_; have HB := n2_; have HI104 := n3_; clear n0_ n1_ n2_ n3_; (try clear hb); (try clear hb2); (try clear hk); (try clear hi); have p122 : 0 ≤ (t119 : Int) := dA; have q122 : t119 < (t105.length : Int) := dA; obtain ⟨ad122, e122, hx122_0, hx122_1, hx122_2, hx122_3, hx122_4, hx122_5, hx122_6, hx122_7, hx122_8, hx122_9, hx122_10, hx122_11, hx122_12, hx122_13⟩ := at_T32 (Kd.R_reads' HO107.out).2.2 t119 p122 q122; cases e122; replace p122 := eq_true p122; replace q122 := eq_true q122))
        go_ret3
        exact ⟨_, _, sR, by (with_reducible repeat (first | apply Kd.R_alloc | apply Kd.R_drewN | apply Kd.R_drew)); exact HO107.out, by (with_reducible repeat (first | apply Kd.S_alloc | apply Kd.S_drewN | apply Kd.S_drew)); exact HO110.out, bqs HB (IsS56.ge HI104.out)⟩
      rw [if_neg c15] at H
      exact absurd H (by simp)
    rw [if_neg c14] at H
    exact absurd H (by simp)
  rw [if_neg c5] at H
  have c5b0 : decide (0 < (t105.length : Int)) = false := decide_eq_false c5
  have c5b1 : decide (0 < t105.length) = false := decide_eq_false (by omega)
  clear c5
  simp only [Option.some.injEq, Prod.mk.injEq] at H
  obtain ⟨rfl, rfl, rfl⟩ := H
  go_enter Try.func14, Try.ntmps14
  go_wp2_with (first | ((with_reducible refine gate_callee (f := 28) rfl ?_); refine gL (some 10) Try.func28 #[.slice A0 l0.length c0] ?_; (with_reducible refine (spec_l1New.calls k _ _ l0 t101 t102 t103 w _ ?side1 ?side2 ?side3 A2.out).mono ?_); (case side1 => exact bq HB); (case side2 => exact HR0.out); (case side3 => exact HC0.out); rintro e w22 ⟨g104, rfl, hi, hb, hb2⟩; refine ⟨_, rfl, ?_⟩; have n0_ := aM (hb); have n1_ := aM (hi); clear HB; have HB := n0_; have HI104 := n1_; clear n0_ n1_; (try clear hb); (try clear hb2); (try clear hk); (try clear hi)) | ((with_reducible refine gate_callee (f := 29) rfl ?_); refine gL (some 13) Try.func29 #[.pointer (some ⟨g104, 0, none⟩)] ?_; (with_reducible refine (spec_l8DrawBoth.calls k g104 t101 t102 t103 t105 t108 t111 t112 w _ ?side1 ?side2 A3.out).mono ?_); (case side1 => exact iq56 HI104); (case side2 => exact bqs HB (IsS56.ge HI104.out)); rintro e w23 ⟨v106, v109, rfl, ho0, ho1, hi, hb, hk⟩; refine ⟨_, rfl, ?_⟩; have n0_ := aM (Kd.R_lower ho0 (below_size (bqs HB (IsS56.ge HI104.out)))); have n1_ := aM (Kd.S_lower ho1 (below_size (bqs HB (IsS56.ge HI104.out)))); have n2_ := aM (hb); have n3_ := aM (hi); clear HB HI104; have HO107 := n0_; have HO110 := n1_; have HB := n2_; have HI104 := n3_; clear n0_ n1_ n2_ n3_; (try clear hb); (try clear hb2); (try clear hk); (try clear hi); (try clear ho0); (try clear ho1)) | ((with_reducible refine gate_callee (f := 30) rfl ?_); refine gL (some 17) Try.func30 #[.pointer (some ⟨g104, 0, none⟩), .int .i64 12] ?_; (with_reducible refine (spec_l1Below.calls g104 t101 t111 t112 12 t113 t114 t115 w _ ?side1 ?side2 A4.out).mono ?_); (case side1 => exact iq56 HI104); (case side2 => exact bqs HB (IsS56.ge HI104.out)); rintro e w24 ⟨rfl, hi, hb, hk⟩; refine ⟨_, rfl, ?_⟩; have n0_ := aM (Kd.R_mono (Kd.R_keep (IsS56.apart (show IsS56 w _ g104 t101 t111 t112 from iq56 HI104) (rq HO107) (by decide)) hk (fun _ h => h.2)) (fun _ h => h.1)); have n1_ := aM (Kd.S_mono (Kd.S_keep (IsS56.apartS (show IsS56 w _ g104 t101 t111 t112 from iq56 HI104) (sq HO110) (by decide)) hk (fun _ h => h.2)) (fun _ h => h.1)); have n2_ := aM (hb); have n3_ := aM (hi); clear HO107 HO110 HB HI104; have HO107 := n0_; have HO110 := n1_; have HB := n2_; have HI104 := n3_; clear n0_ n1_ n2_ n3_; (try clear hb); (try clear hb2); (try clear hk); (try clear hi); obtain ⟨Ao25, co25, eo25⟩ := Kd.R_slice HO107.out; subst eo25))
  go_ret3
  exact ⟨_, _, sR, by (with_reducible repeat (first | apply Kd.R_alloc | apply Kd.R_drewN | apply Kd.R_drew)); exact HO107.out, by (with_reducible repeat (first | apply Kd.S_alloc | apply Kd.S_drewN | apply Kd.S_drew)); exact HO110.out, bqs HB (IsS56.ge HI104.out)⟩

/-! ### spec_DrawCanTurn: function 5 -/
def spec_DrawCanTurn.f (k : Nat) (l0 : List Int) : Option ((List (S32)) × (List (S41)) × Int) := (spec_l8DrawOne.f k l0).bind fun bt101 => (some (bt101.1, bt101.2.1, bt101.2.2))
theorem spec_DrawCanTurn.mono : ∀ a0 k, LeO (spec_DrawCanTurn.f k a0) (spec_DrawCanTurn.f (k + 1) a0) := by
  intro a0 k
  unfold spec_DrawCanTurn.f
  repeat' first
      | (with_reducible exact spec_l8DrawOne.mono _ _)
      | (with_reducible exact LeO.refl _)
      | (with_reducible exact LeO.none _)
      | (with_reducible refine LeO.ite ?_ ?_)
      | (with_reducible refine LeO.bind ?_ (fun _ => ?_))
set_option maxHeartbeats 8000000 in
set_option maxRecDepth 100000 in
theorem spec_DrawCanTurn.calls (k : Nat) (A0 : Option Addr) (c0 : Nat) (l0 : List Int) (r1 : List (S32)) (r2 : List (S41)) (r3 : Int) (w : World) (hr0 : Kd.C (Kd.int .u8) w A0 l0.length l0) (hc0 : l0.length ≤ c0) (h : spec_DrawCanTurn.f k l0 = some (r1, r2, r3)) :
    Calls Try.prog 5 #[.slice A0 l0.length c0] w fun e w' => ∃ v0_ v1_ : Value, e = .returned (.tuple #[v0_, v1_, .int .i64 r3]) ∧ Kd.R k32 32 w' w.heap.size (fun _ => True) v0_ r1 ∧ Kd.S k41 41 w' w.heap.size (fun _ => True) v1_ r2 ∧ Below w.heap.size w w' := by
  have HR0 := Aside0.mk hr0
  have HC0 := Aside0.mk hc0
  clear hr0 hc0
  have HB := aM (Below.refl w.heap.size w)
  have H : ((spec_l8DrawOne.f k l0).bind fun bt101 => (some (bt101.1, bt101.2.1, bt101.2.2))) = some (r1, r2, r3) := h
  clear h
  replace H := Option.bind_eq_some_iff.mp H
  obtain ⟨⟨t101, t102, t103⟩, A20, H⟩ := H
  replace H : (some (t101, t102, t103)) = some (r1, r2, r3) := H
  have A2 := Aside0.mk A20
  clear A20
  simp only [Option.some.injEq, Prod.mk.injEq] at H
  obtain ⟨rfl, rfl, rfl⟩ := H
  go_enter Try.func5, Try.ntmps5
  go_wp2_with (first | ((with_reducible refine gate_callee (f := 14) rfl ?_); refine gL (some 10) Try.func14 #[.slice A0 l0.length c0] ?_; (with_reducible refine (spec_l8DrawOne.calls k _ _ l0 t101 t102 t103 _ ?side1 ?side2 A2.out).mono ?_); (case side1 => exact cq HR0.out); (case side2 => exact HC0.out); rintro e w3 ⟨v104, v106, rfl, ho0, ho1, hb⟩; refine ⟨_, rfl, ?_⟩; have n0_ := aM (Kd.R_lower ho0 (below_size (bq HB))); have n1_ := aM (Kd.S_lower ho1 (below_size (bq HB))); have n2_ := aM (below_step (bq HB) hb); clear HB; have HO105 := n0_; have HO107 := n1_; have HB := n2_; clear n0_ n1_ n2_; (try clear hb); (try clear hb2); (try clear hk); (try clear hi); (try clear ho0); (try clear ho1)))
  go_ret3
  exact ⟨_, _, sR, by (with_reducible repeat (first | apply Kd.R_alloc | apply Kd.R_drewN | apply Kd.R_drew)); exact HO105.out, by (with_reducible repeat (first | apply Kd.S_alloc | apply Kd.S_drewN | apply Kd.S_drew)); exact HO107.out, bq HB⟩

/-! ### impl_in: function 33 -/
def impl_in.f (a0 : Int) (a1 : Int) (a2 : Int) : Option (Bool) := if a0 ≥ a1 then (some (decide (a0 ≤ a2))) else (some false)
set_option maxHeartbeats 8000000 in
set_option maxRecDepth 100000 in
theorem impl_in.calls (a0 : Int) (a1 : Int) (a2 : Int) (r : Bool) (w : World) (h : impl_in.f a0 a1 a2 = some r) :
    Calls Try.prog 33 #[.int .i64 a0, .int .i64 a1, .int .i64 a2] w fun e w' => e = .returned (.bool r) ∧ Drawn0 w w' := by
  have H : (if a0 ≥ a1 then (some (decide (a0 ≤ a2))) else (some false)) = some r := h
  clear h
  by_cases c4 : a0 ≥ a1
  · rw [if_pos c4] at H
    have c4b0 : decide (a1 ≤ a0) = true := decide_eq_true c4
    clear c4
    obtain rfl := Option.some.inj H
    go_enter Try.func33, Try.ntmps33
    go_wp2
    go_ret
    exact ⟨by first | rfl | (simp; done) | (simp [*]; done), dq⟩
  rw [if_neg c4] at H
  have c4b0 : decide (a1 ≤ a0) = false := decide_eq_false c4
  clear c4
  obtain rfl := Option.some.inj H
  go_enter Try.func33, Try.ntmps33
  go_wp2
  go_ret
  exact ⟨by first | rfl | (simp; done) | (simp [*]; done), dq⟩

/-! ### impl_isNo: function 34 -/
def impl_isNo.f (a0 : Int) : Option (Bool) := (impl_in.f a0 1 1000).bind fun t101 => (some t101)
set_option maxHeartbeats 8000000 in
set_option maxRecDepth 100000 in
theorem impl_isNo.calls (a0 : Int) (r : Bool) (w : World) (h : impl_isNo.f a0 = some r) :
    Calls Try.prog 34 #[.int .i64 a0] w fun e w' => e = .returned (.bool r) ∧ Drawn0 w w' := by
  have H : ((impl_in.f a0 1 1000).bind fun t101 => (some t101)) = some r := h
  clear h
  replace H := Option.bind_eq_some_iff.mp H
  obtain ⟨t101, A20, H⟩ := H
  replace H : (some t101) = some r := H
  have A2 := Aside0.mk A20
  clear A20
  obtain rfl := Option.some.inj H
  go_enter Try.func34, Try.ntmps34
  go_wp2_with (first | ((with_reducible refine gate_callee (f := 33) rfl ?_); refine gL (some 4) Try.func33 #[.int .i64 a0, .int .i64 1, .int .i64 1000] ?_; (with_reducible refine (impl_in.calls a0 1 1000 t101 _ A2.out).mono ?_); rintro e w' ⟨rfl, ⟨nd, rfl⟩⟩; refine ⟨_, rfl, ?_⟩))
  go_ret
  exact ⟨by first | rfl | (simp; done) | (simp [*]; done), dq⟩

/-! ### impl_ShareOk: function 46 -/
def impl_ShareOk.f (a0_0 : Int) (a0_1 : Int) : Option (Bool) := (impl_in.f a0_1 1 40).bind fun t102 => (if t102 = true then ((impl_in.f a0_0 1 a0_1).bind fun t103 => (some t103)) else (some false))
set_option maxHeartbeats 8000000 in
set_option maxRecDepth 100000 in
theorem impl_ShareOk.calls (a0_0 : Int) (a0_1 : Int) (r : Bool) (w : World) (h : impl_ShareOk.f a0_0 a0_1 = some r) :
    Calls Try.prog 46 #[.agg #[.int .i64 a0_0, .int .i64 a0_1]] w fun e w' => e = .returned (.bool r) ∧ Below w.heap.size w w' := by
  have hu64 := Try.underlying64
  have HB := aM (Below.refl w.heap.size w)
  have H : ((impl_in.f a0_1 1 40).bind fun t102 => (if t102 = true then ((impl_in.f a0_0 1 a0_1).bind fun t103 => (some t103)) else (some false))) = some r := h
  clear h
  replace H := Option.bind_eq_some_iff.mp H
  obtain ⟨t102, A20, H⟩ := H
  replace H : (if t102 = true then ((impl_in.f a0_0 1 a0_1).bind fun t103 => (some t103)) else (some false)) = some r := H
  have A2 := Aside0.mk A20
  clear A20
  by_cases c3 : t102 = true
  · subst c3
    have H1 : ((impl_in.f a0_0 1 a0_1).bind fun t103 => (some t103)) = some r := by rw [if_pos rfl] at H; exact H
    clear H
    have H := H1
    clear H1
    replace H := Option.bind_eq_some_iff.mp H
    obtain ⟨t103, A40, H⟩ := H
    replace H : (some t103) = some r := H
    have A4 := Aside0.mk A40
    clear A40
    obtain rfl := Option.some.inj H
    go_enter Try.func46, Try.ntmps46
    go_wp2_with (first | ((with_reducible refine gate_dst (N := 1) rfl ?_); refine bE (N := 1) (cs := #[.int .i64 a0_0, .int .i64 a0_1]) (t := 64) ?_; intro gb101 hg w5 hbox hb; have n0_ := aM (below_step (bq HB) hb); have n1_ := aM (hbox); have n2_ := aM ((by rw [hg]; exact (below_size (bq HB)) : w.heap.size ≤ gb101)); have n3_ := n2_; clear HB; have HB := n0_; have BK101 := n1_; have GW101 := n2_; have GE101 := n3_; clear n0_ n1_ n2_ n3_; clear hb hbox hg; obtain ⟨_,_⟩ := cz2 BK101.out; have hfz6_0 := blk_frozen BK101.out) | ((with_reducible refine gate_callee (f := 33) rfl ?_); refine gL (some 5) Try.func33 #[.int .i64 a0_1, .int .i64 1, .int .i64 40] ?_; (with_reducible refine (impl_in.calls a0_1 1 40 true _ A2.out).mono ?_); rintro e w' ⟨rfl, ⟨nd, rfl⟩⟩; refine ⟨_, rfl, ?_⟩) | (go_at_call 33; (with_reducible refine (impl_in.calls a0_0 1 a0_1 t103 _ A4.out).mono ?_); rintro e w' ⟨rfl, ⟨nd, rfl⟩⟩))
    go_ret
    exact ⟨sR, bq HB⟩
  replace c3 := Bool.eq_false_iff.mpr c3
  subst c3
  have H1 : (some false) = some r := by rw [if_neg (show ¬ (false = true) by decide)] at H; exact H
  clear H
  have H := H1
  clear H1
  obtain rfl := Option.some.inj H
  go_enter Try.func46, Try.ntmps46
  go_wp2_with (first | ((with_reducible refine gate_dst (N := 1) rfl ?_); refine bE (N := 1) (cs := #[.int .i64 a0_0, .int .i64 a0_1]) (t := 64) ?_; intro gb101 hg w7 hbox hb; have n0_ := aM (below_step (bq HB) hb); have n1_ := aM (hbox); have n2_ := aM ((by rw [hg]; exact (below_size (bq HB)) : w.heap.size ≤ gb101)); have n3_ := n2_; clear HB; have HB := n0_; have BK101 := n1_; have GW101 := n2_; have GE101 := n3_; clear n0_ n1_ n2_ n3_; clear hb hbox hg; obtain ⟨_,_⟩ := cz2 BK101.out; have hfz8_0 := blk_frozen BK101.out) | ((with_reducible refine gate_callee (f := 33) rfl ?_); refine gL (some 5) Try.func33 #[.int .i64 a0_1, .int .i64 1, .int .i64 40] ?_; (with_reducible refine (impl_in.calls a0_1 1 40 false _ A2.out).mono ?_); rintro e w' ⟨rfl, ⟨nd, rfl⟩⟩; refine ⟨_, rfl, ?_⟩))
  go_ret
  exact ⟨sR, bq HB⟩

/-! ### impl_isUntil: function 47 -/
def impl_isUntil.f (a0 : Int) : Option (Bool) := (impl_in.f a0 0 100040).bind fun t101 => (some t101)
set_option maxHeartbeats 8000000 in
set_option maxRecDepth 100000 in
theorem impl_isUntil.calls (a0 : Int) (r : Bool) (w : World) (h : impl_isUntil.f a0 = some r) :
    Calls Try.prog 47 #[.int .i64 a0] w fun e w' => e = .returned (.bool r) ∧ Drawn0 w w' := by
  have H : ((impl_in.f a0 0 100040).bind fun t101 => (some t101)) = some r := h
  clear h
  replace H := Option.bind_eq_some_iff.mp H
  obtain ⟨t101, A20, H⟩ := H
  replace H : (some t101) = some r := H
  have A2 := Aside0.mk A20
  clear A20
  obtain rfl := Option.some.inj H
  go_enter Try.func47, Try.ntmps47
  go_wp2_with (first | ((with_reducible refine gate_callee (f := 33) rfl ?_); refine gL (some 4) Try.func33 #[.int .i64 a0, .int .i64 0, .int .i64 100040] ?_; (with_reducible refine (impl_in.calls a0 0 100040 t101 _ A2.out).mono ?_); rintro e w' ⟨rfl, ⟨nd, rfl⟩⟩; refine ⟨_, rfl, ?_⟩))
  go_ret
  exact ⟨by first | rfl | (simp; done) | (simp [*]; done), dq⟩

/-! ### impl_isSeq: function 48 -/
def impl_isSeq.f (a0 : Int) : Option (Bool) := (impl_in.f a0 0 1000000).bind fun t101 => (some t101)
set_option maxHeartbeats 8000000 in
set_option maxRecDepth 100000 in
theorem impl_isSeq.calls (a0 : Int) (r : Bool) (w : World) (h : impl_isSeq.f a0 = some r) :
    Calls Try.prog 48 #[.int .i64 a0] w fun e w' => e = .returned (.bool r) ∧ Drawn0 w w' := by
  have H : ((impl_in.f a0 0 1000000).bind fun t101 => (some t101)) = some r := h
  clear h
  replace H := Option.bind_eq_some_iff.mp H
  obtain ⟨t101, A20, H⟩ := H
  replace H : (some t101) = some r := H
  have A2 := Aside0.mk A20
  clear A20
  obtain rfl := Option.some.inj H
  go_enter Try.func48, Try.ntmps48
  go_wp2_with (first | ((with_reducible refine gate_callee (f := 33) rfl ?_); refine gL (some 4) Try.func33 #[.int .i64 a0, .int .i64 0, .int .i64 1000000] ?_; (with_reducible refine (impl_in.calls a0 0 1000000 t101 _ A2.out).mono ?_); rintro e w' ⟨rfl, ⟨nd, rfl⟩⟩; refine ⟨_, rfl, ?_⟩))
  go_ret
  exact ⟨by first | rfl | (simp; done) | (simp [*]; done), dq⟩

end Go.Proofs.Ythmcgbjfcjbhkaa.Print
