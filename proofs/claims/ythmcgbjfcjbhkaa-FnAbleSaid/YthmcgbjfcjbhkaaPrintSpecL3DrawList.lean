/- Go functions as plain functions, and that the Go code answers as these. Printed by wip/patch.py. -/
import Derived.Test.YthmcgbjfcjbhkaaPrint0
import Derived.Test.YthmcgbjfcjbhkaaPrintSlicesIndexIntInt
import Derived.Test.YthmcgbjfcjbhkaaPrintSpecL3Draw
import Derived.Test.YthmcgbjfcjbhkaaPrintSpecL3DrawRight
import Derived.Test.YthmcgbjfcjbhkaaPrintSpecTaskPut
namespace Go.Proofs.Ythmcgbjfcjbhkaa.Print
open Go.RowKit Go.Proofs.Ythmcgbjfcjbhkaa.Base Go.Proofs.YthmcgbjfcjbhkaaW.PrintWords Go.Proofs.YthmcgbjfcjbhkaaW.PrintLast Go.Proofs.YthmcgbjfcjbhkaaW.PrintMore
attribute [local go_sem] max2_int min2_int max_two min_two max_three min_three max_four min_four
set_option linter.all false

/-! ### spec_l3DrawList: function 42 -/
mutual
def spec_l3DrawList.j0 : Nat → List (S32) → Int → List Int → Int → Int → Option ((List (S32)) × Int × Int)
  | 0, _, _, _, _, _ => none
  | k + 1, x3, x4, x1000, x1001, x1002 => spec_l3DrawList.l0 k x3 x4 0 x1000 x1001 x1002
def spec_l3DrawList.l0 : Nat → List (S32) → Int → Int → List Int → Int → Int → Option ((List (S32)) × Int × Int)
  | 0, _, _, _, _, _, _ => none
  | k + 1, x3, x4, x5, x1000, x1001, x1002 => if x5 < x4 then ((spec_l3DrawRight.f k x1000 x1001 x1002).bind fun bt110 => ((spec_TaskPut.f k x3 bt110.1 bt110.2.1 bt110.2.2.1 bt110.2.2.2.1 bt110.2.2.2.2.1 bt110.2.2.2.2.2.1 bt110.2.2.2.2.2.2.1 bt110.2.2.2.2.2.2.2.1 bt110.2.2.2.2.2.2.2.2.1 bt110.2.2.2.2.2.2.2.2.2.1 bt110.2.2.2.2.2.2.2.2.2.2.1 bt110.2.2.2.2.2.2.2.2.2.2.2.1 bt110.2.2.2.2.2.2.2.2.2.2.2.2.1 bt110.2.2.2.2.2.2.2.2.2.2.2.2.2.1).bind fun bt126 => (if bt126.2 = true then (spec_l3DrawList.l0 k bt126.1 x4 (wrap64 (x5 + 1)) x1000 bt110.2.2.2.2.2.2.2.2.2.2.2.2.2.2.1 bt110.2.2.2.2.2.2.2.2.2.2.2.2.2.2.2) else (spec_l3DrawList.l0 k x3 x4 (wrap64 (x5 + 1)) x1000 bt110.2.2.2.2.2.2.2.2.2.2.2.2.2.2.1 bt110.2.2.2.2.2.2.2.2.2.2.2.2.2.2.2)))) else ((spec_l1Once.f x1000 x1001 x1002 20).bind fun bt130 => (if bt130.1 = true then ((spec_l3Draw.f k x1000 bt130.2.1 bt130.2.2).bind fun bt133 => (if x3.length < 1256584717458 then (some ((x3 ++ [(⟨bt133.1, bt133.2.1, bt133.2.2.1, bt133.2.2.2.1, bt133.2.2.2.2.1, bt133.2.2.2.2.2.1, bt133.2.2.2.2.2.2.1, bt133.2.2.2.2.2.2.2.1, bt133.2.2.2.2.2.2.2.2.1, bt133.2.2.2.2.2.2.2.2.2.1, bt133.2.2.2.2.2.2.2.2.2.2.1, bt133.2.2.2.2.2.2.2.2.2.2.2.1, bt133.2.2.2.2.2.2.2.2.2.2.2.2.1, bt133.2.2.2.2.2.2.2.2.2.2.2.2.2.1⟩ : S32)]), bt133.2.2.2.2.2.2.2.2.2.2.2.2.2.2.1, bt133.2.2.2.2.2.2.2.2.2.2.2.2.2.2.2)) else (none))) else (some (x3, bt130.2.1, bt130.2.2))))
end
def spec_l3DrawList.f (k : Nat) (s0_0 : List Int) (s0_1 : Int) (s0_2 : Int) : Option ((List (S32)) × Int × Int) := (some (([] : List (S32)) : List (S32))).bind fun y101 => ((spec_l1Below.f s0_0 s0_1 s0_2 7).bind fun bt104 => ((spec_l1Once.f s0_0 bt104.2.1 bt104.2.2 20).bind fun bt107 => (if bt107.1 = true then (spec_l3DrawList.j0 k y101 30 s0_0 bt107.2.1 bt107.2.2) else (spec_l3DrawList.j0 k y101 bt104.1 s0_0 bt107.2.1 bt107.2.2))))
theorem spec_l3DrawList.mono_l : ∀ k, (∀ y0 y1 y2 y3 y4, LeO (spec_l3DrawList.j0 k y0 y1 y2 y3 y4) (spec_l3DrawList.j0 (k + 1) y0 y1 y2 y3 y4)) ∧ (∀ y0 y1 y2 y3 y4 y5, LeO (spec_l3DrawList.l0 k y0 y1 y2 y3 y4 y5) (spec_l3DrawList.l0 (k + 1) y0 y1 y2 y3 y4 y5))
  | 0 => ⟨fun _ _ _ _ _ r h => by simp [spec_l3DrawList.j0] at h, fun _ _ _ _ _ _ r h => by simp [spec_l3DrawList.l0] at h⟩
  | k + 1 => by
    obtain ⟨ih0, ih1⟩ := spec_l3DrawList.mono_l k
    refine ⟨?_, ?_⟩
    · intro y0 y1 y2 y3 y4
      unfold spec_l3DrawList.j0
      repeat' first
      | (with_reducible exact ih0 _ _ _ _ _)
      | (with_reducible exact ih1 _ _ _ _ _ _)
      | (with_reducible exact spec_TaskPut.mono _ _ _ _ _ _ _ _ _ _ _ _ _ _ _ _)
      | (with_reducible exact spec_l3Draw.mono _ _ _ _)
      | (with_reducible exact spec_l3DrawRight.mono _ _ _ _)
      | (with_reducible exact LeO.refl _)
      | (with_reducible exact LeO.none _)
      | (with_reducible refine LeO.ite ?_ ?_)
      | (with_reducible refine LeO.bind ?_ (fun _ => ?_))
    intro y0 y1 y2 y3 y4 y5
    unfold spec_l3DrawList.l0
    repeat' first
    | (with_reducible exact ih0 _ _ _ _ _)
    | (with_reducible exact ih1 _ _ _ _ _ _)
    | (with_reducible exact spec_TaskPut.mono _ _ _ _ _ _ _ _ _ _ _ _ _ _ _ _)
    | (with_reducible exact spec_l3Draw.mono _ _ _ _)
    | (with_reducible exact spec_l3DrawRight.mono _ _ _ _)
    | (with_reducible exact LeO.refl _)
    | (with_reducible exact LeO.none _)
    | (with_reducible refine LeO.ite ?_ ?_)
    | (with_reducible refine LeO.bind ?_ (fun _ => ?_))
theorem spec_l3DrawList.mono : ∀ a0 a1 a2 k, LeO (spec_l3DrawList.f k a0 a1 a2) (spec_l3DrawList.f (k + 1) a0 a1 a2) := by
  intro a0 a1 a2 k
  obtain ⟨ih0, ih1⟩ := spec_l3DrawList.mono_l k
  unfold spec_l3DrawList.f
  repeat' first
      | (with_reducible exact ih0 _ _ _ _ _)
      | (with_reducible exact ih1 _ _ _ _ _ _)
      | (with_reducible exact spec_TaskPut.mono _ _ _ _ _ _ _ _ _ _ _ _ _ _ _ _)
      | (with_reducible exact spec_l3Draw.mono _ _ _ _)
      | (with_reducible exact spec_l3DrawRight.mono _ _ _ _)
      | (with_reducible exact LeO.refl _)
      | (with_reducible exact LeO.none _)
      | (with_reducible refine LeO.ite ?_ ?_)
      | (with_reducible refine LeO.bind ?_ (fun _ => ?_))
set_option maxHeartbeats 8000000 in
set_option maxRecDepth 100000 in
theorem spec_l3DrawList.calls (k : Nat) (g : Nat) (s0_0 : List Int) (s0_1 : Int) (s0_2 : Int) (r1 : List (S32)) (r2 : Int) (r3 : Int) (w0 w : World) (hI : IsS56 w0 w g s0_0 s0_1 s0_2) (hB : Below w0.heap.size w0 w) (h : spec_l3DrawList.f k s0_0 s0_1 s0_2 = some (r1, r2, r3)) :
    Calls Try.prog 42 #[.pointer (some ⟨g, 0, none⟩)] w fun e w' => ∃ v0_ : Value, e = .returned (v0_) ∧ Kd.R k32 32 w' w.heap.size (fun _ => True) v0_ r1 ∧ IsS56 w0 w' g s0_0 r2 r3 ∧ Below w0.heap.size w0 w' ∧ KeepBut w w' g none := by
  have HI0 := Aside0.mk hI
  have HK := aM (KeepBut.refl w g none)
  have HL := Aside0.mk hB.size
  clear hI
  have HW0 := Aside0.mk hB.size
  have HB := Aside0.mk hB
  clear hB
  have H : ((some (([] : List (S32)) : List (S32))).bind fun y101 => ((spec_l1Below.f s0_0 s0_1 s0_2 7).bind fun bt104 => ((spec_l1Once.f s0_0 bt104.2.1 bt104.2.2 20).bind fun bt107 => (if bt107.1 = true then (spec_l3DrawList.j0 k y101 30 s0_0 bt107.2.1 bt107.2.2) else (spec_l3DrawList.j0 k y101 bt104.1 s0_0 bt107.2.1 bt107.2.2))))) = some (r1, r2, r3) := h
  clear h
  obtain ⟨y101, hy101⟩ : ∃ y_ : List (S32), y_ = (([] : List (S32))) := ⟨_, rfl⟩
  replace H : ((spec_l1Below.f s0_0 s0_1 s0_2 7).bind fun bt104 => ((spec_l1Once.f s0_0 bt104.2.1 bt104.2.2 20).bind fun bt107 => (if bt107.1 = true then (spec_l3DrawList.j0 k y101 30 s0_0 bt107.2.1 bt107.2.2) else (spec_l3DrawList.j0 k y101 bt104.1 s0_0 bt107.2.1 bt107.2.2)))) = some (r1, r2, r3) := by first | (rw [hy101]; with_reducible exact H) | (have H2_ := (Option.bind_some _ _).symm.trans H; rw [hy101]; with_reducible exact H2_) | (have H2_ := (Option.bind_some _ _).symm.trans H; with_reducible exact H2_) | with_reducible exact H | (rw [hy101]; exact H) | exact H
  have Ny101 := Aside0.mk hy101
  clear hy101
  replace H := Option.bind_eq_some_iff.mp H
  obtain ⟨⟨t104, t105, t106⟩, A20, H⟩ := H
  replace H : ((spec_l1Once.f s0_0 t105 t106 20).bind fun bt107 => (if bt107.1 = true then (spec_l3DrawList.j0 k y101 30 s0_0 bt107.2.1 bt107.2.2) else (spec_l3DrawList.j0 k y101 t104 s0_0 bt107.2.1 bt107.2.2))) = some (r1, r2, r3) := H
  have A2 := Aside0.mk A20
  clear A20
  replace H := Option.bind_eq_some_iff.mp H
  obtain ⟨⟨t107, t108, t109⟩, A30, H⟩ := H
  replace H : (if t107 = true then (spec_l3DrawList.j0 k y101 30 s0_0 t108 t109) else (spec_l3DrawList.j0 k y101 t104 s0_0 t108 t109)) = some (r1, r2, r3) := H
  have A3 := Aside0.mk A30
  clear A30
  have HC4 := Aside0.mk H
  clear H
  go_enter Try.func42, Try.ntmps42
  go_upto_if 12 with (first | ((with_reducible refine gate_dst (N := 8) rfl ?_); refine Kd.R_lit k32 _ 32 ?hg (N := 8) ?hd (xs := ([] : List (S32))) (inner := []) (ok := fun _ => True) (okp := fun _ => True) ?hr ?hp (fun _ hk => hk) trivial (Below.refl _ _) (Nat.le_refl _) (by simp) ?_; (case hd => rfl); (case hg => rfl); (case hr => first | (go_simp; done) | (go_simp; rfl)); (case hp => exact (Reps.none _ _)); intro v102 w5 ho6 hb hg_ hnew_; clear hg_ hnew_; (first | rw [← Ny101.out] at ho6 | (simp only [Int.reduceToNat] at ho6; rw [← Ny101.out] at ho6)); have n0_ := aM (Kd.R_lower ho6 (keep_size (w := w) (g := g) (row := none) (kk HK))); have n1_ := aM (IsS56.below (iq56 HI0) hb); have n2_ := aM (KeepBut.trans (kk HK) (KeepBut.of_below hb g none) (.inl rfl)); have n3_ := aM (below_step (bqs HB (IsS56.ge HI0.out)) hb); clear HI0 HK HB; have HO103 := n0_; have HI0 := n1_; have HK := n2_; have HB := n3_; clear n0_ n1_ n2_ n3_; clear hb ho6) | ((with_reducible refine gate_callee (f := 30) rfl ?_); refine gL (some 10) Try.func30 #[.pointer (some ⟨g, 0, none⟩), .int .i64 7] ?_; (with_reducible refine (spec_l1Below.calls g s0_0 s0_1 s0_2 7 t104 t105 t106 w0 _ ?side1 ?side2 A2.out).mono ?_); (case side1 => exact iq56 HI0); (case side2 => exact bqs HB (IsS56.ge HI0.out)); rintro e w7 ⟨rfl, hi, hb, hk⟩; refine ⟨_, rfl, ?_⟩; have n0_ := aM (Kd.R_mono (Kd.R_keep (IsS56.apart (show IsS56 w0 _ g s0_0 s0_1 s0_2 from iq56 HI0) (rq HO103) (by decide)) hk (fun _ h => h.2)) (fun _ h => h.1)); have n1_ := aM (KeepBut.trans (kk HK) hk (.inl rfl)); have n2_ := aM (hb); have n3_ := aM (hi); clear HO103 HK HB HI0; have HO103 := n0_; have HK := n1_; have HB := n2_; have HI0 := n3_; clear n0_ n1_ n2_ n3_; (try clear hb); (try clear hb2); (try clear hk); (try clear hi)) | ((with_reducible refine gate_callee (f := 31) rfl ?_); refine gL (some 12) Try.func31 #[.pointer (some ⟨g, 0, none⟩), .int .i64 20] ?_; (with_reducible refine (spec_l1Once.calls g s0_0 t105 t106 20 t107 t108 t109 w0 _ ?side1 ?side2 A3.out).mono ?_); (case side1 => exact iq56 HI0); (case side2 => exact bqs HB (IsS56.ge HI0.out)); rintro e w8 ⟨rfl, hi, hb, hk⟩; refine ⟨_, rfl, ?_⟩; have n0_ := aM (Kd.R_mono (Kd.R_keep (IsS56.apart (show IsS56 w0 _ g s0_0 t105 t106 from iq56 HI0) (rq HO103) (by decide)) hk (fun _ h => h.2)) (fun _ h => h.1)); have n1_ := aM (KeepBut.trans (kk HK) hk (.inl rfl)); have n2_ := aM (hb); have n3_ := aM (hi); clear HO103 HK HB HI0; have HO103 := n0_; have HK := n1_; have HB := n2_; have HI0 := n3_; clear n0_ n1_ n2_ n3_; (try clear hb); (try clear hb2); (try clear hk); (try clear hi)))
  (try simp only [Act.put, tA, tB, tC])
  go_cut [4] (fun v4 wc => ∃ (kq : Nat) (x4_3 : Int), v4 = .int .i64 x4_3 ∧ Aside0 (spec_l3DrawList.j0 kq y101 x4_3 s0_0 t108 t109 = some (r1, r2, r3)) ∧ Aside0 (kq ≤ k) ∧ Aside0 (Kd.R k32 32 wc w.heap.size (fun _ => True) v102 y101) ∧ Aside0 (IsS56 w0 wc g s0_0 t108 t109) ∧ Aside0 (KeepBut w wc g none) ∧ Aside0 (Below w0.heap.size w0 wc))
  case first =>
    have H := HC4.out
    clear HC4
    by_cases c9 : t107 = true
    · subst c9
      have H1 : (spec_l3DrawList.j0 k y101 30 s0_0 t108 t109) = some (r1, r2, r3) := by rw [if_pos rfl] at H; exact H
      clear H
      have H := H1
      clear H1
      have H' := Aside0.mk H
      clear H
      go_wp2
      go_meet
      case rel => exact ⟨_, (30), sQ, H', ⟨by first | omega | exact Nat.le_refl _⟩, ⟨rq HO103⟩, ⟨iq56 HI0⟩, ⟨kk HK⟩, ⟨bqs HB (IsS56.ge HI0.out)⟩⟩
    replace c9 := Bool.eq_false_iff.mpr c9
    subst c9
    have H1 : (spec_l3DrawList.j0 k y101 t104 s0_0 t108 t109) = some (r1, r2, r3) := by rw [if_neg (show ¬ (false = true) by decide)] at H; exact H
    clear H
    have H := H1
    clear H1
    have H' := Aside0.mk H
    clear H
    go_wp2
    go_meet
    case rel => exact ⟨_, (t104), sQ, H', ⟨by first | omega | exact Nat.le_refl _⟩, ⟨rq HO103⟩, ⟨iq56 HI0⟩, ⟨kk HK⟩, ⟨bqs HB (IsS56.ge HI0.out)⟩⟩
  case rest =>
    clear HC4
    try clear p2
    try clear c3
    try clear c4
    try clear c9
    obtain ⟨kq, x4_3, rfl, HA, HJ3, HO_3, HI0, HK, HB⟩ := hcut
    cases kq with
    | zero => exact absurd HA.out (by simp [spec_l3DrawList.j0])
    | succ kj3 =>
      have H := HA.out
      clear HA
      simp only [spec_l3DrawList.j0] at H
      have H' := Aside0.mk H
      clear H
      go_wp2
      go_loopg [3, 5] kj3 (fun kq v3 v5 w' => ∃ (x3_2 : List (S32)) (x5_2 : Int) (x1001_2 : Int) (x1002_2 : Int), v5 = .int .i64 x5_2 ∧ Aside0 (spec_l3DrawList.l0 kq x3_2 x4_3 x5_2 s0_0 x1001_2 x1002_2 = some (r1, r2, r3)) ∧ Aside0 (kq ≤ kj3) ∧ Aside0 (Kd.R k32 32 w' w.heap.size (fun _ => True) v3 x3_2) ∧ Aside0 (IsS56 w0 w' g s0_0 x1001_2 x1002_2) ∧ Aside0 (KeepBut w w' g none) ∧ Aside0 (Below w0.heap.size w0 w'))
      case atStart => exact ⟨(y101), (0), (t108), (t109), sQ, H', ⟨Nat.le_refl _⟩, ⟨rq HO_3⟩, ⟨iq56 HI0⟩, ⟨kk HK⟩, ⟨bqs HB (IsS56.ge HI0.out)⟩⟩
      case round =>
        clear H'
        try clear p2
        try clear c3
        try clear c4
        try clear c9
        try clear p2
        obtain ⟨x3_2, x5_2, x1001_2, x1002_2, rfl, HA, HK2, HO_3, HI0, HK, HB⟩ := hrel
        cases gk with
        | zero => exact absurd HA.out (by simp [spec_l3DrawList.l0])
        | succ k2 =>
          have H := HA.out
          clear HA
          simp only [spec_l3DrawList.l0] at H
          by_cases c10 : x5_2 < x4_3
          · rw [if_pos c10] at H
            have c10b0 : decide (x5_2 < x4_3) = true := decide_eq_true c10
            clear c10
            replace H := Option.bind_eq_some_iff.mp H
            obtain ⟨⟨t110, t111, t112, t113, t114, t115, t116, t117, t118, t119, t120, t121, t122, t123, t124, t125⟩, A110, H⟩ := H
            replace H : ((spec_TaskPut.f k2 x3_2 t110 t111 t112 t113 t114 t115 t116 t117 t118 t119 t120 t121 t122 t123).bind fun bt126 => (if bt126.2 = true then (spec_l3DrawList.l0 k2 bt126.1 x4_3 (wrap64 (x5_2 + 1)) s0_0 t124 t125) else (spec_l3DrawList.l0 k2 x3_2 x4_3 (wrap64 (x5_2 + 1)) s0_0 t124 t125))) = some (r1, r2, r3) := H
            have A11 := Aside0.mk A110
            clear A110
            replace H := Option.bind_eq_some_iff.mp H
            obtain ⟨⟨t126, t129⟩, A120, H⟩ := H
            replace H : (if t129 = true then (spec_l3DrawList.l0 k2 t126 x4_3 (wrap64 (x5_2 + 1)) s0_0 t124 t125) else (spec_l3DrawList.l0 k2 x3_2 x4_3 (wrap64 (x5_2 + 1)) s0_0 t124 t125)) = some (r1, r2, r3) := H
            have A12 := Aside0.mk A120
            clear A120
            by_cases c13 : t129 = true
            · subst c13
              have H1 : (spec_l3DrawList.l0 k2 t126 x4_3 (wrap64 (x5_2 + 1)) s0_0 t124 t125) = some (r1, r2, r3) := by rw [if_pos rfl] at H; exact H
              clear H
              have H := H1
              clear H1
              have H' := Aside0.mk H
              clear H
              go_wp2_with (first | ((with_reducible refine gate_callee (f := 56) rfl ?_); refine gL (some 21) Try.func56 #[.pointer (some ⟨g, 0, none⟩)] ?_; (with_reducible refine (spec_l3DrawRight.calls k2 g s0_0 x1001_2 x1002_2 t110 t111 t112 t113 t114 t115 t116 t117 t118 t119 t120 t121 t122 t123 t124 t125 w0 _ ?side1 ?side2 A11.out).mono ?_); (case side1 => exact iq56 HI0); (case side2 => exact bqs HB (IsS56.ge HI0.out)); rintro e w14 ⟨rfl, hi, hb, hk⟩; refine ⟨_, rfl, ?_⟩; have n0_ := aM (Kd.R_mono (Kd.R_keep (IsS56.apart (show IsS56 w0 _ g s0_0 x1001_2 x1002_2 from iq56 HI0) (rq HO_3) (by decide)) hk (fun _ h => h.2)) (fun _ h => h.1)); have n1_ := aM (KeepBut.trans (kk HK) hk (.inl rfl)); have n2_ := aM (hb); have n3_ := aM (hi); clear HO_3 HK HB HI0; have HO_3 := n0_; have HK := n1_; have HB := n2_; have HI0 := n3_; clear n0_ n1_ n2_ n3_; (try clear hb); (try clear hb2); (try clear hk); (try clear hi); obtain ⟨Ao15, co15, eo15⟩ := Kd.R_slice HO_3.out; subst eo15) | ((with_reducible refine gate_callee (f := 55) rfl ?_); refine gL (some 22) Try.func55 #[.slice Ao15 x3_2.length co15, .agg #[.int .i64 t110, .int .i64 t111, .int .i64 t112, .int .i64 t113, .bool t114, .int .i64 t115, .int .i64 t116, .int .i64 t117, .int .i64 t118, .int .i64 t119, .int .i64 t120, .int .i64 t121, .int .i64 t122, .int .i64 t123]] ?_; (with_reducible refine (spec_TaskPut.calls k2 _ _ x3_2 t110 t111 t112 t113 t114 t115 t116 t117 t118 t119 t120 t121 t122 t123 t126 true _ ?side1 ?side2 A12.out).mono ?_); (case side1 => exact cq (Kd.R_reads' HO_3.out).2.2); (case side2 => exact (Kd.R_reads' HO_3.out).2.1); rintro e w16 ⟨v127, rfl, ho0, hb⟩; refine ⟨_, rfl, ?_⟩; have n0_ := aM (Kd.R_elder' (rq HO_3) (Kd.R_base ho0) hb); have n1_ := aM (Kd.R_lower (Kd.R_new' ho0 (Kd.R_lt (rq HO_3))) (keep_size (w := w) (g := g) (row := none) (kk HK))); have n2_ := aM (IsS56.below (iq56 HI0) hb); have n3_ := aM (KeepBut.trans (kk HK) (KeepBut.of_below hb g none) (.inl rfl)); have n4_ := aM (below_step (bqs HB (IsS56.ge HI0.out)) hb); clear HO_3 HI0 HK HB; have HO_3 := n0_; have HO128 := n1_; have HI0 := n2_; have HK := n3_; have HB := n4_; clear n0_ n1_ n2_ n3_ n4_; (try clear hb); (try clear hb2); (try clear hk); (try clear hi); (try clear ho0)))
              go_roundg k2
              case measure => have := HJ3.out; have := HK2.out; omega
              case rel => exact ⟨(t126), (wrap64 (x5_2 + 1)), (t124), (t125), sQ, H', ⟨by have := HJ3.out; have := HK2.out; omega⟩, ⟨by (with_reducible repeat (first | apply Kd.R_alloc | apply Kd.R_drewN | apply Kd.R_drew)); exact Kd.R_mono HO128.out (fun _ hk => trivial)⟩, ⟨iq56 HI0⟩, ⟨kk HK⟩, ⟨bqs HB (IsS56.ge HI0.out)⟩⟩
            replace c13 := Bool.eq_false_iff.mpr c13
            subst c13
            have H1 : (spec_l3DrawList.l0 k2 x3_2 x4_3 (wrap64 (x5_2 + 1)) s0_0 t124 t125) = some (r1, r2, r3) := by rw [if_neg (show ¬ (false = true) by decide)] at H; exact H
            clear H
            have H := H1
            clear H1
            have H' := Aside0.mk H
            clear H
            go_wp2_with (first | ((with_reducible refine gate_callee (f := 56) rfl ?_); refine gL (some 21) Try.func56 #[.pointer (some ⟨g, 0, none⟩)] ?_; (with_reducible refine (spec_l3DrawRight.calls k2 g s0_0 x1001_2 x1002_2 t110 t111 t112 t113 t114 t115 t116 t117 t118 t119 t120 t121 t122 t123 t124 t125 w0 _ ?side1 ?side2 A11.out).mono ?_); (case side1 => exact iq56 HI0); (case side2 => exact bqs HB (IsS56.ge HI0.out)); rintro e w17 ⟨rfl, hi, hb, hk⟩; refine ⟨_, rfl, ?_⟩; have n0_ := aM (Kd.R_mono (Kd.R_keep (IsS56.apart (show IsS56 w0 _ g s0_0 x1001_2 x1002_2 from iq56 HI0) (rq HO_3) (by decide)) hk (fun _ h => h.2)) (fun _ h => h.1)); have n1_ := aM (KeepBut.trans (kk HK) hk (.inl rfl)); have n2_ := aM (hb); have n3_ := aM (hi); clear HO_3 HK HB HI0; have HO_3 := n0_; have HK := n1_; have HB := n2_; have HI0 := n3_; clear n0_ n1_ n2_ n3_; (try clear hb); (try clear hb2); (try clear hk); (try clear hi); obtain ⟨Ao18, co18, eo18⟩ := Kd.R_slice HO_3.out; subst eo18) | ((with_reducible refine gate_callee (f := 55) rfl ?_); refine gL (some 22) Try.func55 #[.slice Ao18 x3_2.length co18, .agg #[.int .i64 t110, .int .i64 t111, .int .i64 t112, .int .i64 t113, .bool t114, .int .i64 t115, .int .i64 t116, .int .i64 t117, .int .i64 t118, .int .i64 t119, .int .i64 t120, .int .i64 t121, .int .i64 t122, .int .i64 t123]] ?_; (with_reducible refine (spec_TaskPut.calls k2 _ _ x3_2 t110 t111 t112 t113 t114 t115 t116 t117 t118 t119 t120 t121 t122 t123 t126 false _ ?side1 ?side2 A12.out).mono ?_); (case side1 => exact cq (Kd.R_reads' HO_3.out).2.2); (case side2 => exact (Kd.R_reads' HO_3.out).2.1); rintro e w19 ⟨v127, rfl, ho0, hb⟩; refine ⟨_, rfl, ?_⟩; have n0_ := aM (Kd.R_elder' (rq HO_3) (Kd.R_base ho0) hb); have n1_ := aM (Kd.R_lower (Kd.R_new' ho0 (Kd.R_lt (rq HO_3))) (keep_size (w := w) (g := g) (row := none) (kk HK))); have n2_ := aM (IsS56.below (iq56 HI0) hb); have n3_ := aM (KeepBut.trans (kk HK) (KeepBut.of_below hb g none) (.inl rfl)); have n4_ := aM (below_step (bqs HB (IsS56.ge HI0.out)) hb); clear HO_3 HI0 HK HB; have HO_3 := n0_; have HO128 := n1_; have HI0 := n2_; have HK := n3_; have HB := n4_; clear n0_ n1_ n2_ n3_ n4_; (try clear hb); (try clear hb2); (try clear hk); (try clear hi); (try clear ho0)))
            go_roundg k2
            case measure => have := HJ3.out; have := HK2.out; omega
            case rel => exact ⟨(x3_2), (wrap64 (x5_2 + 1)), (t124), (t125), sQ, H', ⟨by have := HJ3.out; have := HK2.out; omega⟩, ⟨by (with_reducible repeat (first | apply Kd.R_alloc | apply Kd.R_drewN | apply Kd.R_drew)); exact Kd.R_mono HO_3.out (fun _ hk => trivial)⟩, ⟨iq56 HI0⟩, ⟨kk HK⟩, ⟨bqs HB (IsS56.ge HI0.out)⟩⟩
          rw [if_neg c10] at H
          have c10b0 : decide (x5_2 < x4_3) = false := decide_eq_false c10
          clear c10
          replace H := Option.bind_eq_some_iff.mp H
          obtain ⟨⟨t130, t131, t132⟩, A200, H⟩ := H
          replace H : (if t130 = true then ((spec_l3Draw.f k2 s0_0 t131 t132).bind fun bt133 => (if x3_2.length < 1256584717458 then (some ((x3_2 ++ [(⟨bt133.1, bt133.2.1, bt133.2.2.1, bt133.2.2.2.1, bt133.2.2.2.2.1, bt133.2.2.2.2.2.1, bt133.2.2.2.2.2.2.1, bt133.2.2.2.2.2.2.2.1, bt133.2.2.2.2.2.2.2.2.1, bt133.2.2.2.2.2.2.2.2.2.1, bt133.2.2.2.2.2.2.2.2.2.2.1, bt133.2.2.2.2.2.2.2.2.2.2.2.1, bt133.2.2.2.2.2.2.2.2.2.2.2.2.1, bt133.2.2.2.2.2.2.2.2.2.2.2.2.2.1⟩ : S32)]), bt133.2.2.2.2.2.2.2.2.2.2.2.2.2.2.1, bt133.2.2.2.2.2.2.2.2.2.2.2.2.2.2.2)) else (none))) else (some (x3_2, t131, t132))) = some (r1, r2, r3) := H
          have A20 := Aside0.mk A200
          clear A200
          by_cases c21 : t130 = true
          · subst c21
            have H1 : ((spec_l3Draw.f k2 s0_0 t131 t132).bind fun bt133 => (if x3_2.length < 1256584717458 then (some ((x3_2 ++ [(⟨bt133.1, bt133.2.1, bt133.2.2.1, bt133.2.2.2.1, bt133.2.2.2.2.1, bt133.2.2.2.2.2.1, bt133.2.2.2.2.2.2.1, bt133.2.2.2.2.2.2.2.1, bt133.2.2.2.2.2.2.2.2.1, bt133.2.2.2.2.2.2.2.2.2.1, bt133.2.2.2.2.2.2.2.2.2.2.1, bt133.2.2.2.2.2.2.2.2.2.2.2.1, bt133.2.2.2.2.2.2.2.2.2.2.2.2.1, bt133.2.2.2.2.2.2.2.2.2.2.2.2.2.1⟩ : S32)]), bt133.2.2.2.2.2.2.2.2.2.2.2.2.2.2.1, bt133.2.2.2.2.2.2.2.2.2.2.2.2.2.2.2)) else (none))) = some (r1, r2, r3) := by rw [if_pos rfl] at H; exact H
            clear H
            have H := H1
            clear H1
            replace H := Option.bind_eq_some_iff.mp H
            obtain ⟨⟨t133, t134, t135, t136, t137, t138, t139, t140, t141, t142, t143, t144, t145, t146, t147, t148⟩, A220, H⟩ := H
            replace H : (if x3_2.length < 1256584717458 then (some ((x3_2 ++ [(⟨t133, t134, t135, t136, t137, t138, t139, t140, t141, t142, t143, t144, t145, t146⟩ : S32)]), t147, t148)) else (none)) = some (r1, r2, r3) := H
            have A22 := Aside0.mk A220
            clear A220
            by_cases c23 : x3_2.length < 1256584717458
            · rw [if_pos c23] at H
              have LMc23 := Aside0.mk c23
              clear c23
              obtain ⟨y149, hy149⟩ : ∃ y_ : List (S32), y_ = (x3_2 ++ [(⟨t133, t134, t135, t136, t137, t138, t139, t140, t141, t142, t143, t144, t145, t146⟩ : S32)]) := ⟨_, rfl⟩
              replace H : (some (y149, t147, t148)) = some (r1, r2, r3) := by first | (rw [hy149]; with_reducible exact H) | (have H2_ := (Option.bind_some _ _).symm.trans H; rw [hy149]; with_reducible exact H2_) | (have H2_ := (Option.bind_some _ _).symm.trans H; with_reducible exact H2_) | with_reducible exact H | (rw [hy149]; exact H) | exact H
              have Ny149 := Aside0.mk hy149
              clear hy149
              simp only [Option.some.injEq, Prod.mk.injEq] at H
              obtain ⟨rfl, rfl, rfl⟩ := H
              go_wp2_with (first | ((with_reducible refine gate_callee (f := 31) rfl ?_); refine gL (some 28) Try.func31 #[.pointer (some ⟨g, 0, none⟩), .int .i64 20] ?_; (with_reducible refine (spec_l1Once.calls g s0_0 x1001_2 x1002_2 20 true t131 t132 w0 _ ?side1 ?side2 A20.out).mono ?_); (case side1 => exact iq56 HI0); (case side2 => exact bqs HB (IsS56.ge HI0.out)); rintro e w24 ⟨rfl, hi, hb, hk⟩; refine ⟨_, rfl, ?_⟩; have n0_ := aM (Kd.R_mono (Kd.R_keep (IsS56.apart (show IsS56 w0 _ g s0_0 x1001_2 x1002_2 from iq56 HI0) (rq HO_3) (by decide)) hk (fun _ h => h.2)) (fun _ h => h.1)); have n1_ := aM (KeepBut.trans (kk HK) hk (.inl rfl)); have n2_ := aM (hb); have n3_ := aM (hi); clear HO_3 HK HB HI0; have HO_3 := n0_; have HK := n1_; have HB := n2_; have HI0 := n3_; clear n0_ n1_ n2_ n3_; (try clear hb); (try clear hb2); (try clear hk); (try clear hi)) | ((with_reducible refine gate_callee (f := 57) rfl ?_); refine gL (some 31) Try.func57 #[.pointer (some ⟨g, 0, none⟩)] ?_; (with_reducible refine (spec_l3Draw.calls k2 g s0_0 t131 t132 t133 t134 t135 t136 t137 t138 t139 t140 t141 t142 t143 t144 t145 t146 t147 t148 w0 _ ?side1 ?side2 A22.out).mono ?_); (case side1 => exact iq56 HI0); (case side2 => exact bqs HB (IsS56.ge HI0.out)); rintro e w25 ⟨rfl, hi, hb, hk⟩; refine ⟨_, rfl, ?_⟩; have n0_ := aM (Kd.R_mono (Kd.R_keep (IsS56.apart (show IsS56 w0 _ g s0_0 t131 t132 from iq56 HI0) (rq HO_3) (by decide)) hk (fun _ h => h.2)) (fun _ h => h.1)); have n1_ := aM (KeepBut.trans (kk HK) hk (.inl rfl)); have n2_ := aM (hb); have n3_ := aM (hi); clear HO_3 HK HB HI0; have HO_3 := n0_; have HK := n1_; have HB := n2_; have HI0 := n3_; clear n0_ n1_ n2_ n3_; (try clear hb); (try clear hb2); (try clear hk); (try clear hi)) | ((with_reducible refine gate_builtin (b := .append) (xs := #[.tmp 29, .tmp 32]) rfl ?_); at_builtin; refine Kd.R_append k32 w.heap.size rfl (.tmp 29) (.tmp 32) 24 32 (.agg #[(.int .i64 0), (.int .i64 0), (.int .i64 0), (.int .i64 0), (.bool false), (.int .i64 0), (.int .i64 0), (.int .i64 0), (.int .i64 0), (.int .i64 0), (.int .i64 0), (.int .i64 0), (.int .i64 0), (.int .i64 0)]) 112 rfl Try.underlying24 info32 rfl (by decide) (by omega) u3 x3_2 (⟨t133, t134, t135, t136, t137, t138, t139, t140, t141, t142, t143, t144, t145, t146⟩ : S32) [.int .i64 t133, .int .i64 t134, .int .i64 t135, .int .i64 t136, .bool t137, .int .i64 t138, .int .i64 t139, .int .i64 t140, .int .i64 t141, .int .i64 t142, .int .i64 t143, .int .i64 t144, .int .i64 t145, .int .i64 t146] (fun _ => True) (fun _ => False) rfl rfl ?aP (fun _ hk => hk.elim) ?aF ?aO (Below.refl _ _) ?aS ?aL ?_; (case aP => exact k32_mkM _ _ _ (⟨t133, t134, t135, t136, t137, t138, t139, t140, t141, t142, t143, t144, t145, t146⟩ : S32)); (case aF => exact (fun _ _ => trivial)); (case aO => exact (rq HO_3)); (case aS => exact (keep_size (w := w) (g := g) (row := none) (kk HK))); (case aL => have := LMc23.out; omega); intro v150 w26 ho hb hg hat; rw [← Ny149.out] at ho; have n0_ := aM (IsS56.grown (iq56 HI0) hg (IsS56.own_ne HI0.out HO_3.out (by decide))); have n1_ := aM (below_weaken (bqs HB (IsS56.ge HI0.out)) HL.out hb); have n2_ := aM (KeepBut.trans (kk HK) (KeepBut.of_grown hg g) (Kd.R_base2 HO_3.out)); have n3_ := aM (ho); clear HI0 HB HK HO_3; have HI0 := n0_; have HB := n1_; have HK := n2_; have HO151 := n3_; clear n0_ n1_ n2_ n3_; clear ho hb hg hat))
              go_ret
              exact ⟨_, sR, by (with_reducible repeat (first | apply Kd.R_alloc | apply Kd.R_drewN | apply Kd.R_drew)); exact HO151.out, iq56 HI0, bqs HB (IsS56.ge HI0.out), kk HK⟩
            rw [if_neg c23] at H
            exact absurd H (by simp)
          replace c21 := Bool.eq_false_iff.mpr c21
          subst c21
          have H1 : (some (x3_2, t131, t132)) = some (r1, r2, r3) := by rw [if_neg (show ¬ (false = true) by decide)] at H; exact H
          clear H
          have H := H1
          clear H1
          simp only [Option.some.injEq, Prod.mk.injEq] at H
          obtain ⟨rfl, rfl, rfl⟩ := H
          go_wp2_with (first | ((with_reducible refine gate_callee (f := 31) rfl ?_); refine gL (some 28) Try.func31 #[.pointer (some ⟨g, 0, none⟩), .int .i64 20] ?_; (with_reducible refine (spec_l1Once.calls g s0_0 x1001_2 x1002_2 20 false t131 t132 w0 _ ?side1 ?side2 A20.out).mono ?_); (case side1 => exact iq56 HI0); (case side2 => exact bqs HB (IsS56.ge HI0.out)); rintro e w27 ⟨rfl, hi, hb, hk⟩; refine ⟨_, rfl, ?_⟩; have n0_ := aM (Kd.R_mono (Kd.R_keep (IsS56.apart (show IsS56 w0 _ g s0_0 x1001_2 x1002_2 from iq56 HI0) (rq HO_3) (by decide)) hk (fun _ h => h.2)) (fun _ h => h.1)); have n1_ := aM (KeepBut.trans (kk HK) hk (.inl rfl)); have n2_ := aM (hb); have n3_ := aM (hi); clear HO_3 HK HB HI0; have HO_3 := n0_; have HK := n1_; have HB := n2_; have HI0 := n3_; clear n0_ n1_ n2_ n3_; (try clear hb); (try clear hb2); (try clear hk); (try clear hi)))
          go_ret
          exact ⟨_, sR, by (with_reducible repeat (first | apply Kd.R_alloc | apply Kd.R_drewN | apply Kd.R_drew)); exact HO_3.out, iq56 HI0, bqs HB (IsS56.ge HI0.out), kk HK⟩

/-! ### spec_l7Has: function 59 -/
def spec_l7Has.l0 : Nat → List Int → Int → Int → Option (Bool)
  | 0, _, _, _ => none
  | k + 1, x0, x1, x5 => if x5 < (x0.length : Int) then (if 0 ≤ x5 then (if (rd x0 x5) = x1 then (some true) else (spec_l7Has.l0 k x0 x1 (wrap64 (x5 + 1)))) else (none)) else (some false)
def spec_l7Has.f (k : Nat) (l0 : List Int) (a1 : Int) : Option (Bool) := spec_l7Has.l0 k l0 a1 0
theorem spec_l7Has.mono_l : ∀ k, (∀ y0 y1 y2, LeO (spec_l7Has.l0 k y0 y1 y2) (spec_l7Has.l0 (k + 1) y0 y1 y2))
  | 0 => fun _ _ _ r h => by simp [spec_l7Has.l0] at h
  | k + 1 => by
    have ih0 := spec_l7Has.mono_l k
    intro y0 y1 y2
    unfold spec_l7Has.l0
    repeat' first
    | (with_reducible exact ih0 _ _ _)
    | (with_reducible exact LeO.refl _)
    | (with_reducible exact LeO.none _)
    | (with_reducible refine LeO.ite ?_ ?_)
    | (with_reducible refine LeO.bind ?_ (fun _ => ?_))
theorem spec_l7Has.mono : ∀ a0 a1 k, LeO (spec_l7Has.f k a0 a1) (spec_l7Has.f (k + 1) a0 a1) := by
  intro a0 a1 k
  have ih0 := spec_l7Has.mono_l k
  unfold spec_l7Has.f
  repeat' first
      | (with_reducible exact ih0 _ _ _)
      | (with_reducible exact LeO.refl _)
      | (with_reducible exact LeO.none _)
      | (with_reducible refine LeO.ite ?_ ?_)
      | (with_reducible refine LeO.bind ?_ (fun _ => ?_))
set_option maxHeartbeats 8000000 in
set_option maxRecDepth 100000 in
theorem spec_l7Has.calls (k : Nat) (A0 : Option Addr) (c0 : Nat) (l0 : List Int) (a1 : Int) (r : Bool) (w : World) (hr0 : Kd.C (Kd.int .i64) w A0 l0.length l0) (hc0 : l0.length ≤ c0) (h : spec_l7Has.f k l0 a1 = some r) :
    Calls Try.prog 59 #[.slice A0 l0.length c0, .int .i64 a1] w fun e w' => e = .returned (.bool r) ∧ Drawn0 w w' := by
  have HR0 := Aside0.mk hr0
  have HC0 := Aside0.mk hc0
  clear hr0 hc0
  have H : (spec_l7Has.l0 k l0 a1 0) = some r := h
  clear h
  have H' := Aside0.mk H
  clear H
  go_enter Try.func59, Try.ntmps59
  go_wp2
  go_loopg [5] k (fun kq v5 w' => ∃ (x5_1 : Int), v5 = .int .i64 x5_1 ∧ Aside0 (spec_l7Has.l0 kq l0 a1 x5_1 = some r) ∧ Aside0 (kq ≤ k) ∧ Drawn0 w w')
  case atStart => exact ⟨(0), sQ, H', ⟨Nat.le_refl _⟩, dq⟩
  case round =>
    clear H'
    try clear p2
    obtain ⟨x5_1, rfl, HA, HK1, ⟨m1, rfl⟩⟩ := hrel
    cases gk with
    | zero => exact absurd HA.out (by simp [spec_l7Has.l0])
    | succ k1 =>
      have H := HA.out
      clear HA
      simp only [spec_l7Has.l0] at H
      by_cases c3 : x5_1 < (l0.length : Int)
      · rw [if_pos c3] at H
        have c3b0 : decide (x5_1 < (l0.length : Int)) = true := decide_eq_true c3
        clear c3
        by_cases c4 : 0 ≤ x5_1
        · rw [if_pos c4] at H
          have c4b0 : decide (0 ≤ x5_1) = true := decide_eq_true c4
          clear c4
          by_cases c5 : (rd l0 x5_1) = a1
          · rw [if_pos c5] at H
            have c5b0 : ((rd l0 x5_1) == a1) = true := beq_iff_eq.mpr c5
            have c5b1 : ((rd l0 x5_1) != a1) = false := bne_eq_false_iff_eq.mpr c5
            clear c5
            obtain rfl := Option.some.inj H
            have p101 : 0 ≤ (x5_1 : Int) := dA
            have q101 : x5_1 < (l0.length : Int) := dA
            obtain ⟨ad101, e101, hx101_0⟩ := Kd.at_int HR0.out x5_1 p101 q101
            cases e101
            replace p101 := eq_true p101
            replace q101 := eq_true q101
            go_wp2
            go_ret
            exact ⟨by first | rfl | (simp; done) | (simp [*]; done), dq⟩
          rw [if_neg c5] at H
          have c5b0 : ((rd l0 x5_1) == a1) = false := beq_eq_false_iff_ne.mpr c5
          have c5b1 : ((rd l0 x5_1) != a1) = true := bne_iff_ne.mpr c5
          have H' := Aside0.mk H
          clear H
          have p101 : 0 ≤ (x5_1 : Int) := dA
          have q101 : x5_1 < (l0.length : Int) := dA
          obtain ⟨ad101, e101, hx101_0⟩ := Kd.at_int HR0.out x5_1 p101 q101
          cases e101
          replace p101 := eq_true p101
          replace q101 := eq_true q101
          go_wp2
          go_roundg k1
          case measure => have := HK1.out; omega
          case rel => exact ⟨(wrap64 (x5_1 + 1)), sQ, H', ⟨by have := HK1.out; omega⟩, dq⟩
        rw [if_neg c4] at H
        exact absurd H (by simp)
      rw [if_neg c3] at H
      have c3b0 : decide (x5_1 < (l0.length : Int)) = false := decide_eq_false c3
      clear c3
      obtain rfl := Option.some.inj H
      go_wp2
      go_ret
      exact ⟨by first | rfl | (simp; done) | (simp [*]; done), dq⟩

/-! ### spec_WaitAt: function 54 -/
def spec_WaitAt.l0 : Nat → List (S41) → Int → Int → Option (Int)
  | 0, _, _, _ => none
  | k + 1, x0, x1, x5 => if x5 < (x0.length : Int) then (if 0 ≤ x5 then ((spec_l7Has.f k ((rd_T41 x0 x5).f1) x1).bind fun t102 => (if t102 = true then (some x5) else (spec_WaitAt.l0 k x0 x1 (wrap64 (x5 + 1))))) else (none)) else (some (-1))
def spec_WaitAt.f (k : Nat) (l0 : List (S41)) (a1 : Int) : Option (Int) := spec_WaitAt.l0 k l0 a1 0
theorem spec_WaitAt.mono_l : ∀ k, (∀ y0 y1 y2, LeO (spec_WaitAt.l0 k y0 y1 y2) (spec_WaitAt.l0 (k + 1) y0 y1 y2))
  | 0 => fun _ _ _ r h => by simp [spec_WaitAt.l0] at h
  | k + 1 => by
    have ih0 := spec_WaitAt.mono_l k
    intro y0 y1 y2
    unfold spec_WaitAt.l0
    repeat' first
    | (with_reducible exact ih0 _ _ _)
    | (with_reducible exact spec_l7Has.mono _ _ _)
    | (with_reducible exact LeO.refl _)
    | (with_reducible exact LeO.none _)
    | (with_reducible refine LeO.ite ?_ ?_)
    | (with_reducible refine LeO.bind ?_ (fun _ => ?_))
theorem spec_WaitAt.mono : ∀ a0 a1 k, LeO (spec_WaitAt.f k a0 a1) (spec_WaitAt.f (k + 1) a0 a1) := by
  intro a0 a1 k
  have ih0 := spec_WaitAt.mono_l k
  unfold spec_WaitAt.f
  repeat' first
      | (with_reducible exact ih0 _ _ _)
      | (with_reducible exact spec_l7Has.mono _ _ _)
      | (with_reducible exact LeO.refl _)
      | (with_reducible exact LeO.none _)
      | (with_reducible refine LeO.ite ?_ ?_)
      | (with_reducible refine LeO.bind ?_ (fun _ => ?_))
set_option maxHeartbeats 8000000 in
set_option maxRecDepth 100000 in
theorem spec_WaitAt.calls (k : Nat) (A0 : Option Addr) (c0 : Nat) (l0 : List (S41)) (a1 : Int) (r : Int) (w : World) (hr0 : Kd.C k41 w A0 l0.length l0) (hc0 : l0.length ≤ c0) (h : spec_WaitAt.f k l0 a1 = some r) :
    Calls Try.prog 54 #[.slice A0 l0.length c0, .int .i64 a1] w fun e w' => e = .returned (.int .i64 r) ∧ Drawn0 w w' := by
  have HR0 := Aside0.mk hr0
  have HC0 := Aside0.mk hc0
  clear hr0 hc0
  have H : (spec_WaitAt.l0 k l0 a1 0) = some r := h
  clear h
  have H' := Aside0.mk H
  clear H
  go_enter Try.func54, Try.ntmps54
  go_wp2
  go_loopg [5] k (fun kq v5 w' => ∃ (x5_1 : Int), v5 = .int .i64 x5_1 ∧ Aside0 (spec_WaitAt.l0 kq l0 a1 x5_1 = some r) ∧ Aside0 (kq ≤ k) ∧ Drawn0 w w')
  case atStart => exact ⟨(0), sQ, H', ⟨Nat.le_refl _⟩, dq⟩
  case round =>
    clear H'
    try clear p2
    obtain ⟨x5_1, rfl, HA, HK1, ⟨m1, rfl⟩⟩ := hrel
    cases gk with
    | zero => exact absurd HA.out (by simp [spec_WaitAt.l0])
    | succ k1 =>
      have H := HA.out
      clear HA
      simp only [spec_WaitAt.l0] at H
      by_cases c3 : x5_1 < (l0.length : Int)
      · rw [if_pos c3] at H
        have c3b0 : decide (x5_1 < (l0.length : Int)) = true := decide_eq_true c3
        clear c3
        by_cases c4 : 0 ≤ x5_1
        · rw [if_pos c4] at H
          have c4b0 : decide (0 ≤ x5_1) = true := decide_eq_true c4
          clear c4
          replace H := Option.bind_eq_some_iff.mp H
          obtain ⟨t102, A50, H⟩ := H
          replace H : (if t102 = true then (some x5_1) else (spec_WaitAt.l0 k1 l0 a1 (wrap64 (x5_1 + 1)))) = some r := H
          have A5 := Aside0.mk A50
          clear A50
          by_cases c6 : t102 = true
          · subst c6
            have H1 : (some x5_1) = some r := by rw [if_pos rfl] at H; exact H
            clear H
            have H := H1
            clear H1
            obtain rfl := Option.some.inj H
            have p101 : 0 ≤ (x5_1 : Int) := dA
            have q101 : x5_1 < (l0.length : Int) := dA
            obtain ⟨ad101, A101_1, c101_1, e101, hx101_0, hx101_1, hl101_1, hi101_1⟩ := at_T41 HR0.out x5_1 p101 q101
            cases e101
            have HR101_1 := Aside0.mk hi101_1
            have HC101_1 := Aside0.mk hl101_1
            clear hi101_1 hl101_1
            replace p101 := eq_true p101
            replace q101 := eq_true q101
            go_wp2_with (first | ((with_reducible refine gate_callee (f := 59) rfl ?_); refine gL (some 18) Try.func59 #[.slice A101_1 ((rd_T41 l0 x5_1).f1).length c101_1, .int .i64 a1] ?_; (with_reducible refine (spec_l7Has.calls k1 _ _ ((rd_T41 l0 x5_1).f1) a1 true _ ?side1 ?side2 A5.out).mono ?_); (case side1 => exact cq HR101_1.out); (case side2 => exact HC101_1.out); rintro e w' ⟨rfl, ⟨nd, rfl⟩⟩; refine ⟨_, rfl, ?_⟩))
            go_ret
            exact ⟨by first | rfl | (simp; done) | (simp [*]; done), dq⟩
          replace c6 := Bool.eq_false_iff.mpr c6
          subst c6
          have H1 : (spec_WaitAt.l0 k1 l0 a1 (wrap64 (x5_1 + 1))) = some r := by rw [if_neg (show ¬ (false = true) by decide)] at H; exact H
          clear H
          have H := H1
          clear H1
          have H' := Aside0.mk H
          clear H
          have p101 : 0 ≤ (x5_1 : Int) := dA
          have q101 : x5_1 < (l0.length : Int) := dA
          obtain ⟨ad101, A101_1, c101_1, e101, hx101_0, hx101_1, hl101_1, hi101_1⟩ := at_T41 HR0.out x5_1 p101 q101
          cases e101
          have HR101_1 := Aside0.mk hi101_1
          have HC101_1 := Aside0.mk hl101_1
          clear hi101_1 hl101_1
          replace p101 := eq_true p101
          replace q101 := eq_true q101
          go_wp2_with (first | ((with_reducible refine gate_callee (f := 59) rfl ?_); refine gL (some 18) Try.func59 #[.slice A101_1 ((rd_T41 l0 x5_1).f1).length c101_1, .int .i64 a1] ?_; (with_reducible refine (spec_l7Has.calls k1 _ _ ((rd_T41 l0 x5_1).f1) a1 false _ ?side1 ?side2 A5.out).mono ?_); (case side1 => exact cq HR101_1.out); (case side2 => exact HC101_1.out); rintro e w' ⟨rfl, ⟨nd, rfl⟩⟩; refine ⟨_, rfl, ?_⟩))
          go_roundg k1
          case measure => have := HK1.out; omega
          case rel => exact ⟨(wrap64 (x5_1 + 1)), sQ, H', ⟨by have := HK1.out; omega⟩, dq⟩
        rw [if_neg c4] at H
        exact absurd H (by simp)
      rw [if_neg c3] at H
      have c3b0 : decide (x5_1 < (l0.length : Int)) = false := decide_eq_false c3
      clear c3
      obtain rfl := Option.some.inj H
      go_wp2
      go_ret
      exact ⟨by first | rfl | (simp; done) | (simp [*]; done), dq⟩

/-! ### spec_l7Chain: function 38 -/
def spec_l7Chain.l0 : Nat → List (S41) → Int → List Int → Int → Option (List Int × Bool)
  | 0, _, _, _, _ => none
  | k + 1, x0, x1, x6, x7 => if x7 ≤ (x0.length : Int) then ((spec_WaitAt.f k x0 x1).bind fun t104 => (if t104 < 0 then (some (x6, true)) else (if 0 ≤ t104 then (if t104 < (x0.length : Int) then (if x6.length < 17592186044416 then (spec_l7Chain.l0 k x0 ((rd_T41 x0 t104).f0) (x6 ++ [(rd_T41 x0 t104).f0]) (wrap64 (x7 + 1))) else (none)) else (none)) else (none)))) else (some (x6, false))
def spec_l7Chain.f (k : Nat) (l0 : List (S41)) (a1 : Int) : Option (List Int × Bool) := spec_l7Chain.l0 k l0 a1 (([a1] : List Int)) 0
theorem spec_l7Chain.mono_l : ∀ k, (∀ y0 y1 y2 y3, LeO (spec_l7Chain.l0 k y0 y1 y2 y3) (spec_l7Chain.l0 (k + 1) y0 y1 y2 y3))
  | 0 => fun _ _ _ _ r h => by simp [spec_l7Chain.l0] at h
  | k + 1 => by
    have ih0 := spec_l7Chain.mono_l k
    intro y0 y1 y2 y3
    unfold spec_l7Chain.l0
    repeat' first
    | (with_reducible exact ih0 _ _ _ _)
    | (with_reducible exact spec_WaitAt.mono _ _ _)
    | (with_reducible exact LeO.refl _)
    | (with_reducible exact LeO.none _)
    | (with_reducible refine LeO.ite ?_ ?_)
    | (with_reducible refine LeO.bind ?_ (fun _ => ?_))
theorem spec_l7Chain.mono : ∀ a0 a1 k, LeO (spec_l7Chain.f k a0 a1) (spec_l7Chain.f (k + 1) a0 a1) := by
  intro a0 a1 k
  have ih0 := spec_l7Chain.mono_l k
  unfold spec_l7Chain.f
  repeat' first
      | (with_reducible exact ih0 _ _ _ _)
      | (with_reducible exact spec_WaitAt.mono _ _ _)
      | (with_reducible exact LeO.refl _)
      | (with_reducible exact LeO.none _)
      | (with_reducible refine LeO.ite ?_ ?_)
      | (with_reducible refine LeO.bind ?_ (fun _ => ?_))
set_option maxHeartbeats 8000000 in
set_option maxRecDepth 100000 in
theorem spec_l7Chain.calls (k : Nat) (A0 : Option Addr) (c0 : Nat) (l0 : List (S41)) (a1 : Int) (r1 : List Int) (r2 : Bool) (w : World) (hr0 : Kd.C k41 w A0 l0.length l0) (hc0 : l0.length ≤ c0) (h : spec_l7Chain.f k l0 a1 = some (r1, r2)) :
    Calls Try.prog 38 #[.slice A0 l0.length c0, .int .i64 a1] w fun e w' => ∃ v0_ : Value, e = .returned (.tuple #[v0_, .bool r2]) ∧ Kd.R (Kd.int .i64) 3 w' w.heap.size (fun _ => True) v0_ r1 ∧ Below w.heap.size w w' := by
  have HR0 := Aside0.mk hr0
  have HC0 := Aside0.mk hc0
  clear hr0 hc0
  have HB := aM (Below.refl w.heap.size w)
  have H : (spec_l7Chain.l0 k l0 a1 (([a1] : List Int)) 0) = some (r1, r2) := h
  clear h
  obtain ⟨y101, hy101⟩ : ∃ y_ : List Int, y_ = (([a1] : List Int)) := ⟨_, rfl⟩
  replace H : (spec_l7Chain.l0 k l0 a1 y101 0) = some (r1, r2) := by first | (rw [hy101]; with_reducible exact H) | (have H2_ := (Option.bind_some _ _).symm.trans H; rw [hy101]; with_reducible exact H2_) | (have H2_ := (Option.bind_some _ _).symm.trans H; with_reducible exact H2_) | with_reducible exact H | (rw [hy101]; exact H) | exact H
  have Ny101 := Aside0.mk hy101
  clear hy101
  have H' := Aside0.mk H
  clear H
  go_enter Try.func38, Try.ntmps38
  go_wp2_with (first | ((with_reducible refine gate_dst (N := 10) rfl ?_); refine Kd.R_lit (Kd.int .i64) _ 3 ?hg (N := 10) ?hd (xs := ([a1] : List Int)) (inner := [.int .i64 a1]) (ok := fun _ => True) (okp := fun _ => True) ?hr ?hp (fun _ hk => hk) trivial (Below.refl _ _) (Nat.le_refl _) (by simp) ?_; (case hd => rfl); (case hg => rfl); (case hr => first | (go_simp; done) | (go_simp; rfl)); (case hp => exact (Reps.one (show Kd.M (Kd.int .i64) _ _ _ a1 [.int .i64 a1] from rfl) (Reps.none _ _))); intro v102 w3 ho4 hb hg_ hnew_; clear hg_ hnew_; (first | rw [← Ny101.out] at ho4 | (simp only [Int.reduceToNat] at ho4; rw [← Ny101.out] at ho4)); have n0_ := aM (Kd.R_lower ho4 (below_size (bq HB))); have n1_ := aM (below_step (bq HB) hb); clear HB; have HO103 := n0_; have HB := n1_; clear n0_ n1_; clear hb ho4))
  go_loopg [1, 6, 7] k (fun kq v1 v6 v7 w' => ∃ (x1_1 : Int) (x6_1 : List Int) (x7_1 : Int), v1 = .int .i64 x1_1 ∧ v7 = .int .i64 x7_1 ∧ Aside0 (spec_l7Chain.l0 kq l0 x1_1 x6_1 x7_1 = some (r1, r2)) ∧ Aside0 (kq ≤ k) ∧ Aside0 (Kd.R (Kd.int .i64) 3 w' w.heap.size (fun _ => True) v6 x6_1) ∧ Aside0 (Below w.heap.size w w'))
  case atStart => exact ⟨(a1), (y101), (0), sQ, sQ, H', ⟨Nat.le_refl _⟩, ⟨rq HO103⟩, ⟨bq HB⟩⟩
  case round =>
    clear H'
    try clear p2
    try clear c3
    obtain ⟨x1_1, x6_1, x7_1, rfl, rfl, HA, HK1, HO_6, HB⟩ := hrel
    cases gk with
    | zero => exact absurd HA.out (by simp [spec_l7Chain.l0])
    | succ k1 =>
      have H := HA.out
      clear HA
      simp only [spec_l7Chain.l0] at H
      by_cases c5 : x7_1 ≤ (l0.length : Int)
      · rw [if_pos c5] at H
        have c5b0 : decide (x7_1 ≤ (l0.length : Int)) = true := decide_eq_true c5
        clear c5
        replace H := Option.bind_eq_some_iff.mp H
        obtain ⟨t104, A60, H⟩ := H
        replace H : (if t104 < 0 then (some (x6_1, true)) else (if 0 ≤ t104 then (if t104 < (l0.length : Int) then (if x6_1.length < 17592186044416 then (spec_l7Chain.l0 k1 l0 ((rd_T41 l0 t104).f0) (x6_1 ++ [(rd_T41 l0 t104).f0]) (wrap64 (x7_1 + 1))) else (none)) else (none)) else (none))) = some (r1, r2) := H
        have A6 := Aside0.mk A60
        clear A60
        by_cases c7 : t104 < 0
        · rw [if_pos c7] at H
          have c7b0 : decide (t104 < 0) = true := decide_eq_true c7
          clear c7
          simp only [Option.some.injEq, Prod.mk.injEq] at H
          obtain ⟨rfl, rfl⟩ := H
          go_wp2_with (first | ((with_reducible refine gate_callee (f := 54) rfl ?_); refine gL (some 19) Try.func54 #[.slice A0 l0.length c0, .int .i64 x1_1] ?_; (with_reducible refine (spec_WaitAt.calls k1 _ _ l0 x1_1 t104 _ ?side1 ?side2 A6.out).mono ?_); (case side1 => exact cq (Kd.C_below HR0.out HB.out)); (case side2 => exact HC0.out); rintro e w' ⟨rfl, ⟨nd, rfl⟩⟩; refine ⟨_, rfl, ?_⟩))
          go_ret2
          exact ⟨_, sR, by (with_reducible repeat (first | apply Kd.R_alloc | apply Kd.R_drewN | apply Kd.R_drew)); exact HO_6.out, bq HB⟩
        rw [if_neg c7] at H
        have c7b0 : decide (t104 < 0) = false := decide_eq_false c7
        clear c7
        by_cases c8 : 0 ≤ t104
        · rw [if_pos c8] at H
          have c8b0 : decide (0 ≤ t104) = true := decide_eq_true c8
          clear c8
          by_cases c9 : t104 < (l0.length : Int)
          · rw [if_pos c9] at H
            have c9b0 : decide (t104 < (l0.length : Int)) = true := decide_eq_true c9
            clear c9
            by_cases c10 : x6_1.length < 17592186044416
            · rw [if_pos c10] at H
              have LMc10 := Aside0.mk c10
              clear c10
              obtain ⟨y106, hy106⟩ : ∃ y_ : List Int, y_ = (x6_1 ++ [(rd_T41 l0 t104).f0]) := ⟨_, rfl⟩
              replace H : (spec_l7Chain.l0 k1 l0 ((rd_T41 l0 t104).f0) y106 (wrap64 (x7_1 + 1))) = some (r1, r2) := by first | (rw [hy106]; with_reducible exact H) | (have H2_ := (Option.bind_some _ _).symm.trans H; rw [hy106]; with_reducible exact H2_) | (have H2_ := (Option.bind_some _ _).symm.trans H; with_reducible exact H2_) | with_reducible exact H | (rw [hy106]; exact H) | exact H
              have Ny106 := Aside0.mk hy106
              clear hy106
              have H' := Aside0.mk H
              clear H
              go_wp2_with (first | ((with_reducible refine gate_callee (f := 54) rfl ?_); refine gL (some 19) Try.func54 #[.slice A0 l0.length c0, .int .i64 x1_1] ?_; (with_reducible refine (spec_WaitAt.calls k1 _ _ l0 x1_1 t104 _ ?side1 ?side2 A6.out).mono ?_); (case side1 => exact cq (Kd.C_below HR0.out HB.out)); (case side2 => exact HC0.out); rintro e w' ⟨rfl, ⟨nd, rfl⟩⟩; refine ⟨_, rfl, ?_⟩; have p105 : 0 ≤ (t104 : Int) := dA; have q105 : t104 < (l0.length : Int) := dA; obtain ⟨ad105, A105_1, c105_1, e105, hx105_0, hx105_1, hl105_1, hi105_1⟩ := at_T41 HR0.out t104 p105 q105; cases e105; replace hx105_0 := (HB.out.cell (World.block_lt_of_cell? w _ hx105_0)).trans hx105_0; replace hx105_1 := (HB.out.cell (World.block_lt_of_cell? w _ hx105_1)).trans hx105_1; have HR105_1 := Aside0.mk hi105_1; have HC105_1 := Aside0.mk hl105_1; clear hi105_1 hl105_1; replace p105 := eq_true p105; replace q105 := eq_true q105) | ((with_reducible refine gate_builtin (b := .append) (xs := #[.tmp 28, .tmp 30]) rfl ?_); at_builtin; refine Kd.R_append (Kd.int .i64) (w0 := w) w.heap.size rfl (.tmp 28) (.tmp 30) 39 3 (.int .i64 0) 8 rfl Try.underlying39 info3 rfl (by decide) (by omega) u6 x6_1 ((rd_T41 l0 t104).f0) [.int .i64 ((rd_T41 l0 t104).f0)] (fun _ => True) (fun _ => False) rfl rfl ?aP (fun _ hk => hk.elim) ?aF ?aO ?aB ?aS ?aL ?_; (case aP => exact rfl); (case aB => exact (bq HB)); (case aF => exact (fun _ _ => trivial)); (case aO => exact (rq HO_6)); (case aS => exact (below_size (bq HB))); (case aL => have := LMc10.out; omega); intro v107 w11 ho hb hg hat; rw [← Ny106.out] at ho; have n0_ := aM (hb); have n1_ := aM (ho); clear HB HO_6; have HB := n0_; have HO108 := n1_; clear n0_ n1_; clear ho hb hg hat))
              go_roundg k1
              case measure => have := HK1.out; omega
              case rel => exact ⟨((rd_T41 l0 t104).f0), (y106), (wrap64 (x7_1 + 1)), sQ, sQ, H', ⟨by have := HK1.out; omega⟩, ⟨rq HO108⟩, ⟨bq HB⟩⟩
            rw [if_neg c10] at H
            exact absurd H (by simp)
          rw [if_neg c9] at H
          exact absurd H (by simp)
        rw [if_neg c8] at H
        exact absurd H (by simp)
      rw [if_neg c5] at H
      have c5b0 : decide (x7_1 ≤ (l0.length : Int)) = false := decide_eq_false c5
      clear c5
      simp only [Option.some.injEq, Prod.mk.injEq] at H
      obtain ⟨rfl, rfl⟩ := H
      go_wp2
      go_ret2
      exact ⟨_, sR, by (with_reducible repeat (first | apply Kd.R_alloc | apply Kd.R_drewN | apply Kd.R_drew)); exact HO_6.out, bq HB⟩

/-! ### spec_l7Waits: function 39 -/
mutual
def spec_l7Waits.l0 : Nat → List (S41) → Int → Int → Int → Option (Int)
  | 0, _, _, _, _ => none
  | k + 1, x0, x1, x5, x6 => if x6 < (x0.length : Int) then (spec_l7Waits.l1 k x0 x1 x5 x6 0) else (some x5)
def spec_l7Waits.l1 : Nat → List (S41) → Int → Int → Int → Int → Option (Int)
  | 0, _, _, _, _, _ => none
  | k + 1, x0, x1, x5, x6, x7 => if 0 ≤ x6 then (if x6 < (x0.length : Int) then (if x7 < (((rd_T41 x0 x6).f1).length : Int) then (if 0 ≤ x7 then (if (rd ((rd_T41 x0 x6).f1) x7) = x1 then (spec_l7Waits.l1 k x0 x1 (wrap64 (x5 + 1)) x6 (wrap64 (x7 + 1))) else (spec_l7Waits.l1 k x0 x1 x5 x6 (wrap64 (x7 + 1)))) else (none)) else (spec_l7Waits.l0 k x0 x1 x5 (wrap64 (x6 + 1)))) else (none)) else (none)
end
def spec_l7Waits.f (k : Nat) (l0 : List (S41)) (a1 : Int) : Option (Int) := spec_l7Waits.l0 k l0 a1 0 0
theorem spec_l7Waits.mono_l : ∀ k, (∀ y0 y1 y2 y3, LeO (spec_l7Waits.l0 k y0 y1 y2 y3) (spec_l7Waits.l0 (k + 1) y0 y1 y2 y3)) ∧ (∀ y0 y1 y2 y3 y4, LeO (spec_l7Waits.l1 k y0 y1 y2 y3 y4) (spec_l7Waits.l1 (k + 1) y0 y1 y2 y3 y4))
  | 0 => ⟨fun _ _ _ _ r h => by simp [spec_l7Waits.l0] at h, fun _ _ _ _ _ r h => by simp [spec_l7Waits.l1] at h⟩
  | k + 1 => by
    obtain ⟨ih0, ih1⟩ := spec_l7Waits.mono_l k
    refine ⟨?_, ?_⟩
    · intro y0 y1 y2 y3
      unfold spec_l7Waits.l0
      repeat' first
      | (with_reducible exact ih0 _ _ _ _)
      | (with_reducible exact ih1 _ _ _ _ _)
      | (with_reducible exact LeO.refl _)
      | (with_reducible exact LeO.none _)
      | (with_reducible refine LeO.ite ?_ ?_)
      | (with_reducible refine LeO.bind ?_ (fun _ => ?_))
    intro y0 y1 y2 y3 y4
    unfold spec_l7Waits.l1
    repeat' first
    | (with_reducible exact ih0 _ _ _ _)
    | (with_reducible exact ih1 _ _ _ _ _)
    | (with_reducible exact LeO.refl _)
    | (with_reducible exact LeO.none _)
    | (with_reducible refine LeO.ite ?_ ?_)
    | (with_reducible refine LeO.bind ?_ (fun _ => ?_))
theorem spec_l7Waits.mono : ∀ a0 a1 k, LeO (spec_l7Waits.f k a0 a1) (spec_l7Waits.f (k + 1) a0 a1) := by
  intro a0 a1 k
  obtain ⟨ih0, ih1⟩ := spec_l7Waits.mono_l k
  unfold spec_l7Waits.f
  repeat' first
      | (with_reducible exact ih0 _ _ _ _)
      | (with_reducible exact ih1 _ _ _ _ _)
      | (with_reducible exact LeO.refl _)
      | (with_reducible exact LeO.none _)
      | (with_reducible refine LeO.ite ?_ ?_)
      | (with_reducible refine LeO.bind ?_ (fun _ => ?_))
set_option maxHeartbeats 8000000 in
set_option maxRecDepth 100000 in
theorem spec_l7Waits.calls (k : Nat) (A0 : Option Addr) (c0 : Nat) (l0 : List (S41)) (a1 : Int) (r : Int) (w : World) (hr0 : Kd.C k41 w A0 l0.length l0) (hc0 : l0.length ≤ c0) (h : spec_l7Waits.f k l0 a1 = some r) :
    Calls Try.prog 39 #[.slice A0 l0.length c0, .int .i64 a1] w fun e w' => e = .returned (.int .i64 r) ∧ Drawn0 w w' := by
  have HR0 := Aside0.mk hr0
  have HC0 := Aside0.mk hc0
  clear hr0 hc0
  have H : (spec_l7Waits.l0 k l0 a1 0 0) = some r := h
  clear h
  have H' := Aside0.mk H
  clear H
  go_enter Try.func39, Try.ntmps39
  go_wp2
  go_loopg [5, 6] k (fun kq v5 v6 w' => ∃ (x5_1 : Int) (x6_1 : Int), v5 = .int .i64 x5_1 ∧ v6 = .int .i64 x6_1 ∧ Aside0 (spec_l7Waits.l0 kq l0 a1 x5_1 x6_1 = some r) ∧ Aside0 (kq ≤ k) ∧ Drawn0 w w')
  case atStart => exact ⟨(0), (0), sQ, sQ, H', ⟨Nat.le_refl _⟩, dq⟩
  case round =>
    clear H'
    try clear p2
    obtain ⟨x5_1, x6_1, rfl, rfl, HA, HK1, ⟨m1, rfl⟩⟩ := hrel
    cases gk with
    | zero => exact absurd HA.out (by simp [spec_l7Waits.l0])
    | succ k1 =>
      have H := HA.out
      clear HA
      simp only [spec_l7Waits.l0] at H
      by_cases c3 : x6_1 < (l0.length : Int)
      · rw [if_pos c3] at H
        have c3b0 : decide (x6_1 < (l0.length : Int)) = true := decide_eq_true c3
        clear c3
        have H' := Aside0.mk H
        clear H
        go_wp2
        go_loopg [5, 7] k1 (fun kq v5 v7 w' => ∃ (x5_2 : Int) (x7_2 : Int), v5 = .int .i64 x5_2 ∧ v7 = .int .i64 x7_2 ∧ Aside0 (spec_l7Waits.l1 kq l0 a1 x5_2 x6_1 x7_2 = some r) ∧ Aside0 (kq ≤ k1) ∧ Drawn0 w w')
        case atStart => exact ⟨(x5_1), (0), sQ, sQ, H', ⟨Nat.le_refl _⟩, dq⟩
        case round =>
          clear H'
          try clear p2
          try clear c3
          try clear c3b0
          try clear p2
          obtain ⟨x5_2, x7_2, rfl, rfl, HA, HK2, ⟨m2, rfl⟩⟩ := hrel
          cases gk with
          | zero => exact absurd HA.out (by simp [spec_l7Waits.l1])
          | succ k2 =>
            have H := HA.out
            clear HA
            simp only [spec_l7Waits.l1] at H
            by_cases c4 : 0 ≤ x6_1
            · rw [if_pos c4] at H
              have c4b0 : decide (0 ≤ x6_1) = true := decide_eq_true c4
              clear c4
              by_cases c5 : x6_1 < (l0.length : Int)
              · rw [if_pos c5] at H
                have c5b0 : decide (x6_1 < (l0.length : Int)) = true := decide_eq_true c5
                clear c5
                by_cases c6 : x7_2 < (((rd_T41 l0 x6_1).f1).length : Int)
                · rw [if_pos c6] at H
                  have c6b0 : decide (x7_2 < (((rd_T41 l0 x6_1).f1).length : Int)) = true := decide_eq_true c6
                  clear c6
                  by_cases c7 : 0 ≤ x7_2
                  · rw [if_pos c7] at H
                    have c7b0 : decide (0 ≤ x7_2) = true := decide_eq_true c7
                    clear c7
                    by_cases c8 : (rd ((rd_T41 l0 x6_1).f1) x7_2) = a1
                    · rw [if_pos c8] at H
                      have c8b0 : ((rd ((rd_T41 l0 x6_1).f1) x7_2) == a1) = true := beq_iff_eq.mpr c8
                      have c8b1 : ((rd ((rd_T41 l0 x6_1).f1) x7_2) != a1) = false := bne_eq_false_iff_eq.mpr c8
                      clear c8
                      have H' := Aside0.mk H
                      clear H
                      have p101 : 0 ≤ (x6_1 : Int) := dA
                      have q101 : x6_1 < (l0.length : Int) := dA
                      obtain ⟨ad101, A101_1, c101_1, e101, hx101_0, hx101_1, hl101_1, hi101_1⟩ := at_T41 HR0.out x6_1 p101 q101
                      cases e101
                      have HR101_1 := Aside0.mk hi101_1
                      have HC101_1 := Aside0.mk hl101_1
                      clear hi101_1 hl101_1
                      replace p101 := eq_true p101
                      replace q101 := eq_true q101
                      have p102 : 0 ≤ (x6_1 : Int) := dA
                      have q102 : x6_1 < (l0.length : Int) := dA
                      obtain ⟨ad102, A102_1, c102_1, e102, hx102_0, hx102_1, hl102_1, hi102_1⟩ := at_T41 HR0.out x6_1 p102 q102
                      obtain rfl : ad101 = ad102 := (by injection e102)
                      have HR102_1 := Aside0.mk hi102_1
                      have HC102_1 := Aside0.mk hl102_1
                      clear hi102_1 hl102_1
                      replace p102 := eq_true p102
                      replace q102 := eq_true q102
                      have ea_ := Option.some.inj (hx101_1.symm.trans hx102_1)
                      injection ea_ with ea_ en_ ec_
                      subst ea_
                      subst ec_
                      clear en_
                      have p103 : 0 ≤ (x7_2 : Int) := dA
                      have q103 : x7_2 < (((rd_T41 l0 x6_1).f1).length : Int) := dA
                      obtain ⟨ad103, e103, hx103_0⟩ := Kd.at_int HR102_1.out x7_2 p103 q103
                      cases e103
                      replace p103 := eq_true p103
                      replace q103 := eq_true q103
                      go_wp2
                      go_roundg k2
                      case measure => have := HK1.out; have := HK2.out; omega
                      case rel => exact ⟨(wrap64 (x5_2 + 1)), (wrap64 (x7_2 + 1)), sQ, sQ, H', ⟨by have := HK1.out; have := HK2.out; omega⟩, dq⟩
                    rw [if_neg c8] at H
                    have c8b0 : ((rd ((rd_T41 l0 x6_1).f1) x7_2) == a1) = false := beq_eq_false_iff_ne.mpr c8
                    have c8b1 : ((rd ((rd_T41 l0 x6_1).f1) x7_2) != a1) = true := bne_iff_ne.mpr c8
                    have H' := Aside0.mk H
                    clear H
                    have p101 : 0 ≤ (x6_1 : Int) := dA
                    have q101 : x6_1 < (l0.length : Int) := dA
                    obtain ⟨ad101, A101_1, c101_1, e101, hx101_0, hx101_1, hl101_1, hi101_1⟩ := at_T41 HR0.out x6_1 p101 q101
                    cases e101
                    have HR101_1 := Aside0.mk hi101_1
                    have HC101_1 := Aside0.mk hl101_1
                    clear hi101_1 hl101_1
                    replace p101 := eq_true p101
                    replace q101 := eq_true q101
                    have p102 : 0 ≤ (x6_1 : Int) := dA
                    have q102 : x6_1 < (l0.length : Int) := dA
                    obtain ⟨ad102, A102_1, c102_1, e102, hx102_0, hx102_1, hl102_1, hi102_1⟩ := at_T41 HR0.out x6_1 p102 q102
                    obtain rfl : ad101 = ad102 := (by injection e102)
                    have HR102_1 := Aside0.mk hi102_1
                    have HC102_1 := Aside0.mk hl102_1
                    clear hi102_1 hl102_1
                    replace p102 := eq_true p102
                    replace q102 := eq_true q102
                    have ea_ := Option.some.inj (hx101_1.symm.trans hx102_1)
                    injection ea_ with ea_ en_ ec_
                    subst ea_
                    subst ec_
                    clear en_
                    have p103 : 0 ≤ (x7_2 : Int) := dA
                    have q103 : x7_2 < (((rd_T41 l0 x6_1).f1).length : Int) := dA
                    obtain ⟨ad103, e103, hx103_0⟩ := Kd.at_int HR102_1.out x7_2 p103 q103
                    cases e103
                    replace p103 := eq_true p103
                    replace q103 := eq_true q103
                    go_wp2
                    go_roundg k2
                    case measure => have := HK1.out; have := HK2.out; omega
                    case rel => exact ⟨(x5_2), (wrap64 (x7_2 + 1)), sQ, sQ, H', ⟨by have := HK1.out; have := HK2.out; omega⟩, dq⟩
                  rw [if_neg c7] at H
                  exact absurd H (by simp)
                rw [if_neg c6] at H
                have c6b0 : decide (x7_2 < (((rd_T41 l0 x6_1).f1).length : Int)) = false := decide_eq_false c6
                clear c6
                have H' := Aside0.mk H
                clear H
                have p101 : 0 ≤ (x6_1 : Int) := dA
                have q101 : x6_1 < (l0.length : Int) := dA
                obtain ⟨ad101, A101_1, c101_1, e101, hx101_0, hx101_1, hl101_1, hi101_1⟩ := at_T41 HR0.out x6_1 p101 q101
                cases e101
                have HR101_1 := Aside0.mk hi101_1
                have HC101_1 := Aside0.mk hl101_1
                clear hi101_1 hl101_1
                replace p101 := eq_true p101
                replace q101 := eq_true q101
                go_wp2
                go_roundg k2
                case measure => have := HK1.out; have := HK2.out; omega
                case rel => exact ⟨(x5_2), (wrap64 (x6_1 + 1)), sQ, sQ, H', ⟨by have := HK1.out; have := HK2.out; omega⟩, dq⟩
              rw [if_neg c5] at H
              exact absurd H (by simp)
            rw [if_neg c4] at H
            exact absurd H (by simp)
      rw [if_neg c3] at H
      have c3b0 : decide (x6_1 < (l0.length : Int)) = false := decide_eq_false c3
      clear c3
      obtain rfl := Option.some.inj H
      go_wp2
      go_ret
      exact ⟨by first | rfl | (simp; done) | (simp [*]; done), dq⟩

end Go.Proofs.Ythmcgbjfcjbhkaa.Print
