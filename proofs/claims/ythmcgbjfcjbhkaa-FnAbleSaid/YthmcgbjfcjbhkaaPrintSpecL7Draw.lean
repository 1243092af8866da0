/- Go functions as plain functions, and that the Go code answers as these. Printed by wip/patch.py. -/
import Derived.Test.YthmcgbjfcjbhkaaPrint0
import Derived.Test.YthmcgbjfcjbhkaaPrintSlicesIndexIntInt
import Derived.Test.YthmcgbjfcjbhkaaPrintSpecL1PickInt
import Derived.Test.YthmcgbjfcjbhkaaPrintSpecLockAsk
namespace Go.Proofs.Ythmcgbjfcjbhkaa.Print
open Go.RowKit Go.Proofs.Ythmcgbjfcjbhkaa.Base Go.Proofs.YthmcgbjfcjbhkaaW.PrintWords Go.Proofs.YthmcgbjfcjbhkaaW.PrintLast Go.Proofs.YthmcgbjfcjbhkaaW.PrintMore
attribute [local go_sem] max2_int min2_int max_two min_two max_three min_three max_four min_four
set_option linter.all false

/-! ### spec_l7Draw: function 44 -/
def spec_l7Draw.f (k : Nat) (s0_0 : List Int) (s0_1 : Int) (s0_2 : Int) : Option ((List (S41)) × Int × Int) := (spec_l7DrawRight.f k s0_0 s0_1 s0_2).bind fun bt101 => ((spec_l1Below.f s0_0 bt101.2.1 bt101.2.2 (bt101.1.length : Int)).bind fun bt106 => ((spec_l1Below.f s0_0 bt106.2.1 bt106.2.2 20).bind fun bt109 => (if bt109.1 = 0 then ((spec_l1PickInt.f s0_0 bt109.2.1 bt109.2.2 (([(-1), 0, 3, 1000, 1001] : List Int))).bind fun bt115 => (if 0 ≤ bt106.1 then (if bt106.1 < (bt101.1.length : Int) then (some ((bt101.1.set (bt106.1 : Int).toNat (⟨bt115.1, (rd_T41 bt101.1 bt106.1).f1⟩ : S41)), bt115.2.1, bt115.2.2)) else (none)) else (none))) else (if bt109.1 = 1 then (if 0 ≤ bt106.1 then (if bt106.1 < (bt101.1.length : Int) then ((spec_l1Below.f s0_0 bt109.2.1 bt109.2.2 8).bind fun bt120 => (if ((rd_T41 bt101.1 bt106.1).f1).length < 17592186044416 then (some ((bt101.1.set (bt106.1 : Int).toNat (⟨(rd_T41 bt101.1 bt106.1).f0, (((rd_T41 bt101.1 bt106.1).f1) ++ [bt120.1])⟩ : S41)), bt120.2.1, bt120.2.2)) else (none))) else (none)) else (none)) else (if bt109.1 = 2 then ((spec_l1Below.f s0_0 bt109.2.1 bt109.2.2 2).bind fun bt127 => (if 0 ≤ (wrap64 (5 + bt127.1)) then (if (wrap64 (5 + bt127.1) : Int).toNat ≤ 8796093022208 then (some ((List.replicate (wrap64 (5 + bt127.1) : Int).toNat z41), bt127.2.1, bt127.2.2)) else (none)) else (none))) else (some (bt101.1, bt109.2.1, bt109.2.2)))))))
theorem spec_l7Draw.mono : ∀ a0 a1 a2 k, LeO (spec_l7Draw.f k a0 a1 a2) (spec_l7Draw.f (k + 1) a0 a1 a2) := by
  intro a0 a1 a2 k
  unfold spec_l7Draw.f
  repeat' first
      | (with_reducible exact spec_l7DrawRight.mono _ _ _ _)
      | (with_reducible exact LeO.refl _)
      | (with_reducible exact LeO.none _)
      | (with_reducible refine LeO.ite ?_ ?_)
      | (with_reducible refine LeO.bind ?_ (fun _ => ?_))
def spec_l7Draw.T7 : Bool × List (List Nat × List Nat) := (true, [([], []), ([], []), ([], []), ([], []), ([2, 3], [2, 3]), ([4], [4]), ([5], [5]), ([], []), ([7], [7]), ([8], [8]), ([6, 9, 8], [6, 9]), ([0, 1, 0, 1, 2, 3, 4, 5, 6, 7, 8, 9, 10], [0, 1]), ([11, 0, 1, 2, 3, 4, 5, 6, 7, 8, 9, 10], [11]), ([12, 10, 10, 0, 1, 2, 3, 4, 5, 6, 7, 8, 9, 10], [10, 12])])
def spec_l7Draw.B7 : List Nat := [0, 0, 0, 0, 12, 28, 60, 0, 128, 384, 1020, 2047, 4095, 8191]
theorem spec_l7Draw.tab7 : rtab .any (opsOf Try.f44 7) = spec_l7Draw.T7 := by kernel_rfl
theorem spec_l7Draw.bits7 : waitsOk spec_l7Draw.T7.2 spec_l7Draw.B7 = true := by kernel_rfl
set_option maxHeartbeats 8000000 in
set_option maxRecDepth 100000 in
theorem spec_l7Draw.calls (k : Nat) (g : Nat) (s0_0 : List Int) (s0_1 : Int) (s0_2 : Int) (r1 : List (S41)) (r2 : Int) (r3 : Int) (w0 w : World) (hI : IsS56 w0 w g s0_0 s0_1 s0_2) (hB : Below w0.heap.size w0 w) (h : spec_l7Draw.f k s0_0 s0_1 s0_2 = some (r1, r2, r3)) :
    Calls Try.prog 44 #[.pointer (some ⟨g, 0, none⟩)] w fun e w' => ∃ v0_ : Value, e = .returned (v0_) ∧ Kd.S k41 41 w' w.heap.size (fun _ => True) v0_ r1 ∧ IsS56 w0 w' g s0_0 r2 r3 ∧ Below w0.heap.size w0 w' ∧ KeepBut w w' g none := by
  have HI0 := Aside0.mk hI
  have HK := aM (KeepBut.refl w g none)
  have HL := Aside0.mk hB.size
  clear hI
  have HW0 := Aside0.mk hB.size
  have HB := Aside0.mk hB
  clear hB
  have H : ((spec_l7DrawRight.f k s0_0 s0_1 s0_2).bind fun bt101 => ((spec_l1Below.f s0_0 bt101.2.1 bt101.2.2 (bt101.1.length : Int)).bind fun bt106 => ((spec_l1Below.f s0_0 bt106.2.1 bt106.2.2 20).bind fun bt109 => (if bt109.1 = 0 then ((spec_l1PickInt.f s0_0 bt109.2.1 bt109.2.2 (([(-1), 0, 3, 1000, 1001] : List Int))).bind fun bt115 => (if 0 ≤ bt106.1 then (if bt106.1 < (bt101.1.length : Int) then (some ((bt101.1.set (bt106.1 : Int).toNat (⟨bt115.1, (rd_T41 bt101.1 bt106.1).f1⟩ : S41)), bt115.2.1, bt115.2.2)) else (none)) else (none))) else (if bt109.1 = 1 then (if 0 ≤ bt106.1 then (if bt106.1 < (bt101.1.length : Int) then ((spec_l1Below.f s0_0 bt109.2.1 bt109.2.2 8).bind fun bt120 => (if ((rd_T41 bt101.1 bt106.1).f1).length < 17592186044416 then (some ((bt101.1.set (bt106.1 : Int).toNat (⟨(rd_T41 bt101.1 bt106.1).f0, (((rd_T41 bt101.1 bt106.1).f1) ++ [bt120.1])⟩ : S41)), bt120.2.1, bt120.2.2)) else (none))) else (none)) else (none)) else (if bt109.1 = 2 then ((spec_l1Below.f s0_0 bt109.2.1 bt109.2.2 2).bind fun bt127 => (if 0 ≤ (wrap64 (5 + bt127.1)) then (if (wrap64 (5 + bt127.1) : Int).toNat ≤ 8796093022208 then (some ((List.replicate (wrap64 (5 + bt127.1) : Int).toNat z41), bt127.2.1, bt127.2.2)) else (none)) else (none))) else (some (bt101.1, bt109.2.1, bt109.2.2)))))))) = some (r1, r2, r3) := h
  clear h
  replace H := Option.bind_eq_some_iff.mp H
  obtain ⟨⟨t101, t104, t105⟩, A20, H⟩ := H
  replace H : ((spec_l1Below.f s0_0 t104 t105 (t101.length : Int)).bind fun bt106 => ((spec_l1Below.f s0_0 bt106.2.1 bt106.2.2 20).bind fun bt109 => (if bt109.1 = 0 then ((spec_l1PickInt.f s0_0 bt109.2.1 bt109.2.2 (([(-1), 0, 3, 1000, 1001] : List Int))).bind fun bt115 => (if 0 ≤ bt106.1 then (if bt106.1 < (t101.length : Int) then (some ((t101.set (bt106.1 : Int).toNat (⟨bt115.1, (rd_T41 t101 bt106.1).f1⟩ : S41)), bt115.2.1, bt115.2.2)) else (none)) else (none))) else (if bt109.1 = 1 then (if 0 ≤ bt106.1 then (if bt106.1 < (t101.length : Int) then ((spec_l1Below.f s0_0 bt109.2.1 bt109.2.2 8).bind fun bt120 => (if ((rd_T41 t101 bt106.1).f1).length < 17592186044416 then (some ((t101.set (bt106.1 : Int).toNat (⟨(rd_T41 t101 bt106.1).f0, (((rd_T41 t101 bt106.1).f1) ++ [bt120.1])⟩ : S41)), bt120.2.1, bt120.2.2)) else (none))) else (none)) else (none)) else (if bt109.1 = 2 then ((spec_l1Below.f s0_0 bt109.2.1 bt109.2.2 2).bind fun bt127 => (if 0 ≤ (wrap64 (5 + bt127.1)) then (if (wrap64 (5 + bt127.1) : Int).toNat ≤ 8796093022208 then (some ((List.replicate (wrap64 (5 + bt127.1) : Int).toNat z41), bt127.2.1, bt127.2.2)) else (none)) else (none))) else (some (t101, bt109.2.1, bt109.2.2))))))) = some (r1, r2, r3) := H
  have A2 := Aside0.mk A20
  clear A20
  replace H := Option.bind_eq_some_iff.mp H
  obtain ⟨⟨t106, t107, t108⟩, A30, H⟩ := H
  replace H : ((spec_l1Below.f s0_0 t107 t108 20).bind fun bt109 => (if bt109.1 = 0 then ((spec_l1PickInt.f s0_0 bt109.2.1 bt109.2.2 (([(-1), 0, 3, 1000, 1001] : List Int))).bind fun bt115 => (if 0 ≤ t106 then (if t106 < (t101.length : Int) then (some ((t101.set (t106 : Int).toNat (⟨bt115.1, (rd_T41 t101 t106).f1⟩ : S41)), bt115.2.1, bt115.2.2)) else (none)) else (none))) else (if bt109.1 = 1 then (if 0 ≤ t106 then (if t106 < (t101.length : Int) then ((spec_l1Below.f s0_0 bt109.2.1 bt109.2.2 8).bind fun bt120 => (if ((rd_T41 t101 t106).f1).length < 17592186044416 then (some ((t101.set (t106 : Int).toNat (⟨(rd_T41 t101 t106).f0, (((rd_T41 t101 t106).f1) ++ [bt120.1])⟩ : S41)), bt120.2.1, bt120.2.2)) else (none))) else (none)) else (none)) else (if bt109.1 = 2 then ((spec_l1Below.f s0_0 bt109.2.1 bt109.2.2 2).bind fun bt127 => (if 0 ≤ (wrap64 (5 + bt127.1)) then (if (wrap64 (5 + bt127.1) : Int).toNat ≤ 8796093022208 then (some ((List.replicate (wrap64 (5 + bt127.1) : Int).toNat z41), bt127.2.1, bt127.2.2)) else (none)) else (none))) else (some (t101, bt109.2.1, bt109.2.2)))))) = some (r1, r2, r3) := H
  have A3 := Aside0.mk A30
  clear A30
  replace H := Option.bind_eq_some_iff.mp H
  obtain ⟨⟨t109, t110, t111⟩, A40, H⟩ := H
  replace H : (if t109 = 0 then ((spec_l1PickInt.f s0_0 t110 t111 (([(-1), 0, 3, 1000, 1001] : List Int))).bind fun bt115 => (if 0 ≤ t106 then (if t106 < (t101.length : Int) then (some ((t101.set (t106 : Int).toNat (⟨bt115.1, (rd_T41 t101 t106).f1⟩ : S41)), bt115.2.1, bt115.2.2)) else (none)) else (none))) else (if t109 = 1 then (if 0 ≤ t106 then (if t106 < (t101.length : Int) then ((spec_l1Below.f s0_0 t110 t111 8).bind fun bt120 => (if ((rd_T41 t101 t106).f1).length < 17592186044416 then (some ((t101.set (t106 : Int).toNat (⟨(rd_T41 t101 t106).f0, (((rd_T41 t101 t106).f1) ++ [bt120.1])⟩ : S41)), bt120.2.1, bt120.2.2)) else (none))) else (none)) else (none)) else (if t109 = 2 then ((spec_l1Below.f s0_0 t110 t111 2).bind fun bt127 => (if 0 ≤ (wrap64 (5 + bt127.1)) then (if (wrap64 (5 + bt127.1) : Int).toNat ≤ 8796093022208 then (some ((List.replicate (wrap64 (5 + bt127.1) : Int).toNat z41), bt127.2.1, bt127.2.2)) else (none)) else (none))) else (some (t101, t110, t111))))) = some (r1, r2, r3) := H
  have A4 := Aside0.mk A40
  clear A40
  by_cases c5 : t109 = 0
  · rw [if_pos c5] at H
    have c5b0 : (t109 == 0) = true := beq_iff_eq.mpr c5
    have c5b1 : (t109 != 0) = false := bne_eq_false_iff_eq.mpr c5
    clear c5
    obtain ⟨y112, hy112⟩ : ∃ y_ : List Int, y_ = (([(-1), 0, 3, 1000, 1001] : List Int)) := ⟨_, rfl⟩
    replace H : ((spec_l1PickInt.f s0_0 t110 t111 y112).bind fun bt115 => (if 0 ≤ t106 then (if t106 < (t101.length : Int) then (some ((t101.set (t106 : Int).toNat (⟨bt115.1, (rd_T41 t101 t106).f1⟩ : S41)), bt115.2.1, bt115.2.2)) else (none)) else (none))) = some (r1, r2, r3) := by first | (rw [hy112]; with_reducible exact H) | (have H2_ := (Option.bind_some _ _).symm.trans H; rw [hy112]; with_reducible exact H2_) | (have H2_ := (Option.bind_some _ _).symm.trans H; with_reducible exact H2_) | with_reducible exact H | (rw [hy112]; exact H) | exact H
    have Ny112 := Aside0.mk hy112
    clear hy112
    replace H := Option.bind_eq_some_iff.mp H
    obtain ⟨⟨t115, t116, t117⟩, A60, H⟩ := H
    replace H : (if 0 ≤ t106 then (if t106 < (t101.length : Int) then (some ((t101.set (t106 : Int).toNat (⟨t115, (rd_T41 t101 t106).f1⟩ : S41)), t116, t117)) else (none)) else (none)) = some (r1, r2, r3) := H
    have A6 := Aside0.mk A60
    clear A60
    by_cases c7 : 0 ≤ t106
    · rw [if_pos c7] at H
      have c7b0 : decide (0 ≤ t106) = true := decide_eq_true c7
      clear c7
      by_cases c8 : t106 < (t101.length : Int)
      · rw [if_pos c8] at H
        have c8b0 : decide (t106 < (t101.length : Int)) = true := decide_eq_true c8
        clear c8
        obtain ⟨y118, hy118⟩ : ∃ y_ : List (S41), y_ = (t101.set (t106 : Int).toNat (⟨t115, (rd_T41 t101 t106).f1⟩ : S41)) := ⟨_, rfl⟩
        replace H : (some (y118, t116, t117)) = some (r1, r2, r3) := by first | (rw [hy118]; with_reducible exact H) | (have H2_ := (Option.bind_some _ _).symm.trans H; rw [hy118]; with_reducible exact H2_) | (have H2_ := (Option.bind_some _ _).symm.trans H; with_reducible exact H2_) | with_reducible exact H | (rw [hy118]; exact H) | exact H
        have Ny118 := Aside0.mk hy118
        clear hy118
        simp only [Option.some.injEq, Prod.mk.injEq] at H
        obtain ⟨rfl, rfl, rfl⟩ := H
        go_enter Try.func44, Try.ntmps44
        go_wp2_with (first | ((with_reducible refine gate_callee (f := 61) rfl ?_); refine gL (some 6) Try.func61 #[.pointer (some ⟨g, 0, none⟩)] ?_; (with_reducible refine (spec_l7DrawRight.calls k g s0_0 s0_1 s0_2 t101 t104 t105 w0 _ ?side1 ?side2 A2.out).mono ?_); (case side1 => exact iq56 HI0); (case side2 => exact bqs HB (IsS56.ge HI0.out)); rintro e w10 ⟨v102, rfl, ho0, hi, hb, hk⟩; refine ⟨_, rfl, ?_⟩; have n0_ := aM (Kd.S_lower ho0 (keep_size (w := w) (g := g) (row := none) (kk HK))); have n1_ := aM (KeepBut.trans (kk HK) hk (.inl rfl)); have n2_ := aM (hb); have n3_ := aM (hi); clear HK HB HI0; have HO103 := n0_; have HK := n1_; have HB := n2_; have HI0 := n3_; clear n0_ n1_ n2_ n3_; (try clear hb); (try clear hb2); (try clear hk); (try clear hi); (try clear ho0); obtain ⟨Ao11, co11, eo11⟩ := Kd.S_slice HO103.out; subst eo11) | ((with_reducible refine gate_callee (f := 30) rfl ?_); refine gL (some 10) Try.func30 #[.pointer (some ⟨g, 0, none⟩), .int .i64 (t101.length : Int)] ?_; (with_reducible refine (spec_l1Below.calls g s0_0 t104 t105 (t101.length : Int) t106 t107 t108 w0 _ ?side1 ?side2 A3.out).mono ?_); (case side1 => exact iq56 HI0); (case side2 => exact bqs HB (IsS56.ge HI0.out)); rintro e w12 ⟨rfl, hi, hb, hk⟩; refine ⟨_, rfl, ?_⟩; have n0_ := aM (Kd.S_mono (Kd.S_keep (IsS56.apartS (show IsS56 w0 _ g s0_0 t104 t105 from iq56 HI0) (sq HO103) (by decide)) hk (fun _ h => h.2)) (fun _ h => h.1)); have n1_ := aM (KeepBut.trans (kk HK) hk (.inl rfl)); have n2_ := aM (hb); have n3_ := aM (hi); clear HO103 HK HB HI0; have HO103 := n0_; have HK := n1_; have HB := n2_; have HI0 := n3_; clear n0_ n1_ n2_ n3_; (try clear hb); (try clear hb2); (try clear hk); (try clear hi)) | ((with_reducible refine gate_callee (f := 30) rfl ?_); refine gL (some 12) Try.func30 #[.pointer (some ⟨g, 0, none⟩), .int .i64 20] ?_; (with_reducible refine (spec_l1Below.calls g s0_0 t107 t108 20 t109 t110 t111 w0 _ ?side1 ?side2 A4.out).mono ?_); (case side1 => exact iq56 HI0); (case side2 => exact bqs HB (IsS56.ge HI0.out)); rintro e w13 ⟨rfl, hi, hb, hk⟩; refine ⟨_, rfl, ?_⟩; have n0_ := aM (Kd.S_mono (Kd.S_keep (IsS56.apartS (show IsS56 w0 _ g s0_0 t107 t108 from iq56 HI0) (sq HO103) (by decide)) hk (fun _ h => h.2)) (fun _ h => h.1)); have n1_ := aM (KeepBut.trans (kk HK) hk (.inl rfl)); have n2_ := aM (hb); have n3_ := aM (hi); clear HO103 HK HB HI0; have HO103 := n0_; have HK := n1_; have HB := n2_; have HI0 := n3_; clear n0_ n1_ n2_ n3_; (try clear hb); (try clear hb2); (try clear hk); (try clear hi)) | ((with_reducible refine gate_dst (N := 18) rfl ?_); refine Kd.R_lit (Kd.int .i64) _ 3 ?hg (N := 18) ?hd (xs := ([(-1), 0, 3, 1000, 1001] : List Int)) (inner := [.int .i64 (-1), .int .i64 0, .int .i64 3, .int .i64 1000, .int .i64 1001]) (ok := fun _ => True) (okp := fun _ => True) ?hr ?hp (fun _ hk => hk) trivial (Below.refl _ _) (Nat.le_refl _) (by simp) ?_; (case hd => rfl); (case hg => rfl); (case hr => first | (go_simp; done) | (go_simp; rfl)); (case hp => exact (Reps.one (show Kd.M (Kd.int .i64) _ _ _ (-1) [.int .i64 (-1)] from rfl) (Reps.one (show Kd.M (Kd.int .i64) _ _ _ 0 [.int .i64 0] from rfl) (Reps.one (show Kd.M (Kd.int .i64) _ _ _ 3 [.int .i64 3] from rfl) (Reps.one (show Kd.M (Kd.int .i64) _ _ _ 1000 [.int .i64 1000] from rfl) (Reps.one (show Kd.M (Kd.int .i64) _ _ _ 1001 [.int .i64 1001] from rfl) (Reps.none _ _))))))); intro v113 w14 ho15 hb hg_ hnew_; clear hg_ hnew_; (first | rw [← Ny112.out] at ho15 | (simp only [Int.reduceToNat] at ho15; rw [← Ny112.out] at ho15)); have n0_ := aM (Kd.S_elder' (sq HO103) (Kd.R_base ho15) hb); have n1_ := aM (Kd.R_lower ho15 (keep_size (w := w) (g := g) (row := none) (kk HK))); have n2_ := aM (IsS56.below (iq56 HI0) hb); have n3_ := aM (KeepBut.trans (kk HK) (KeepBut.of_below hb g none) (.inl rfl)); have n4_ := aM (below_step (bqs HB (IsS56.ge HI0.out)) hb); clear HO103 HI0 HK HB; have HO103 := n0_; have HO114 := n1_; have HI0 := n2_; have HK := n3_; have HB := n4_; clear n0_ n1_ n2_ n3_ n4_; clear hb ho15; obtain ⟨Ao16, co16, eo16⟩ := Kd.R_slice HO114.out; subst eo16) | ((with_reducible refine gate_callee (f := 62) rfl ?_); refine gL (some 19) Try.func62 #[.pointer (some ⟨g, 0, none⟩), .slice Ao16 y112.length co16] ?_; (with_reducible refine (spec_l1PickInt.calls g s0_0 t110 t111 _ _ y112 t115 t116 t117 w0 _ ?side1 ?side2 ?side3 ?side4 ?side5 A6.out).mono ?_); (case side1 => exact iq56 HI0); (case side2 => exact bqs HB (IsS56.ge HI0.out)); (case side3 => exact cq (Kd.R_reads' HO114.out).2.2); (case side4 => exact (Kd.R_reads' HO114.out).2.1); (case side5 => exact far_slice (IsS56.own_ne HI0.out HO114.out (by decide))); rintro e w17 ⟨rfl, hi, hb, hk⟩; refine ⟨_, rfl, ?_⟩; have n0_ := aM (Kd.S_mono (Kd.S_keep (IsS56.apartS (show IsS56 w0 _ g s0_0 t110 t111 from iq56 HI0) (sq HO103) (by decide)) hk (fun _ h => h.2)) (fun _ h => h.1)); have n1_ := aM (Kd.R_mono (Kd.R_keep (IsS56.apart (show IsS56 w0 _ g s0_0 t110 t111 from iq56 HI0) (rq HO114) (by decide)) hk (fun _ h => h.2)) (fun _ h => h.1)); have n2_ := aM (KeepBut.trans (kk HK) hk (.inl rfl)); have n3_ := aM (hb); have n4_ := aM (hi); clear HO103 HO114 HK HB HI0; have HO103 := n0_; have HO114 := n1_; have HK := n2_; have HB := n3_; have HI0 := n4_; clear n0_ n1_ n2_ n3_ n4_; (try clear hb); (try clear hb2); (try clear hk); (try clear hi); have p9 : 0 ≤ (t106 : Int) := dA; have q9 : (t106 : Int) < ((t101.length : Int) : Int) := dA; obtain ⟨go9, co9, eo9, gb9, gl9, cl9, HG9⟩ := Kd.S_form HO103.out (by omega); (first | cases eo9 | (injection eo9 with ea_ en_ ec_; (first | subst ea_ | (injection ea_ with ea_; subst ea_)); subst ec_; clear en_)); have GB9 := Aside0.mk gb9; have GG9 := Aside0.mk HG9; clear gb9 gl9 HG9; obtain ⟨_, ce9, hcl9, hM9, hcc9, hfr9, _, _⟩ := Kd.S_elem HO103.out z41 (t106 : Int) p9 q9; obtain ⟨ve9_1, rfl, ge9_1⟩ := k41_openM hM9; have hx9_0 : w17.cell? ⟨go9, (t106 : Int).toNat * 2, none⟩ = some (.int .i64 ((rd_T41 t101 t106).f0)) := hcc9 0 _ rfl; have hx9_1 : w17.cell? ⟨go9, (t106 : Int).toNat * 2 + 1, none⟩ = some (ve9_1) := hcc9 1 _ rfl; have hf9_0 : w17.frozen? ⟨go9, (t106 : Int).toNat * 2, none⟩ = false := hfr9 0; have hf9_1 : w17.frozen? ⟨go9, (t106 : Int).toNat * 2 + 1, none⟩ = false := hfr9 1; clear hcl9 hcc9 hfr9 hM9; replace p9 := eq_true p9; replace q9 := eq_true q9; have n_ := aM (Kd.S_mono (ok' := (fun k_ => some k_ ≠ (.slice Ao16 y112.length co16 : Value).ownBlock)) HO103.out (fun k_ hk => hk.2)); clear HO103; have HO103 := n_; clear n_; have HX18 := aM (show Kd.S k41 41 w17 w.heap.size (fun k_ => ((fun k_ => some k_ ≠ (.slice Ao16 y112.length co16 : Value).ownBlock)) k_ ∧ ¬ ((fun _ => False)) k_) (.slice (some ⟨go9, 0, none⟩) t101.length co11) t101 from (by (with_reducible repeat (first | apply Kd.S_alloc | apply Kd.S_drewN | apply Kd.S_drew)); exact Kd.S_mono HO103.out (fun k_ hk => ⟨hk, fun e_ => e_⟩))); obtain ⟨oki18, ce18, hcl18, hM18, hcc18, hfr18, hoki18, hH18⟩ := Kd.S_elem HX18.out z41 (t106 : Int) (dA) (by have h_ : (t106 : Int) < ((t101.length : Int) : Int) := dA; first | exact h_ | (have e_ := (Kd.S_reads' HO103.out).1; omega) | simpa using h_); obtain ⟨ve18_1, rfl, ge18_1⟩ := k41_openM hM18; have HP18 := Kd.S_seg hH18 (dA) (by have h_ : (t106 : Int) < ((t101.length : Int) : Int) := dA; first | exact h_ | (have e_ := (Kd.S_reads' HO103.out).1; omega) | simpa using h_) (seg := [.int .i64 t115]) (j := 0) (show 1 ≤ 2 from by decide) (x' := (⟨t115, (rd_T41 t101 t106).f1⟩ : S41)) (k41_mkM _ _ _ (⟨t115, (rd_T41 t101 t106).f1⟩ : S41) (Kd.R_mono ge18_1 (fun _ h_ => Or.inl h_))) (fun _ hk => hk) (fun k_ hk_ => hk_.elim); have hx18_0 := hcc18 0 _ rfl; (try simp only [show (k41).sz = 2 from rfl, Nat.mul_one, Nat.add_zero] at hx18_0); have hf18_0 := hfr18 0; (try simp only [show (k41).sz = 2 from rfl, Nat.mul_one, Nat.add_zero] at hf18_0); clear hcl18 hcc18 hfr18 hM18 hoki18 hH18) | ((with_reducible refine gate_store (t := 3) (p := 21) rfl ?_); refine store_event (t := 3) (p := 21) (v := ?vo_w19) (w1 := (w17.setCell ⟨go9, (t106 : Int).toNat * 2, none⟩ (.int .i64 t115))) ?hg ?ho ?hn ?hr ?_; (case ho => rfl); (case hg => rfl); (case hn => rfl); (case hr => first | (go_simp; done) | (go_simp; rfl)); intro w19 hw; have hg : w17.grownBy w19 (some go9) := (by rw [hw]; exact HP18.2); have hp_ : Kd.S k41 41 w19 w.heap.size (fun k_ => some k_ ≠ (.slice Ao16 y112.length co16 : Value).ownBlock) (.slice (some ⟨go9, 0, none⟩) t101.length co11) y118 := (by rw [hw, Ny118.out]; exact HP18.1); clear HP18; have n0_ := aM (IsS56.grown (iq56 HI0) hg (IsS56.own_neS HI0.out HO103.out (by decide))); have n1_ := aM (hp_); have n2_ := aM (Kd.R_over' (v := (.slice (some ⟨go9, 0, none⟩) t101.length co11)) (rq HO114) (Kd.S_typed HO103.out) (by decide) hg); have n3_ := aM ((by rw [hw]; exact below_set (HB.out) (Nat.le_trans HL.out GB9.out) : Below w0.heap.size w0 w19)); have n4_ := aM (KeepBut.trans (kk HK) (KeepBut.of_grown hg g) (Kd.S_base2 HO103.out)); clear HI0 HO103 HO114 HB HK; have HI0 := n0_; have HO103 := n1_; have HO114 := n2_; have HB := n3_; have HK := n4_; clear n0_ n1_ n2_ n3_ n4_; clear hg hw hp_))
        go_ret
        exact ⟨_, sR, by (with_reducible repeat (first | apply Kd.S_alloc | apply Kd.S_drewN | apply Kd.S_drew)); exact Kd.S_mono HO103.out (fun _ hk => trivial), iq56 HI0, bqs HB (IsS56.ge HI0.out), kk HK⟩
      rw [if_neg c8] at H
      exact absurd H (by simp)
    rw [if_neg c7] at H
    exact absurd H (by simp)
  rw [if_neg c5] at H
  have c5b0 : (t109 == 0) = false := beq_eq_false_iff_ne.mpr c5
  have c5b1 : (t109 != 0) = true := bne_iff_ne.mpr c5
  by_cases c20 : t109 = 1
  · rw [if_pos c20] at H
    have c20b0 : (t109 == 1) = true := beq_iff_eq.mpr c20
    have c20b1 : (t109 != 1) = false := bne_eq_false_iff_eq.mpr c20
    clear c20
    by_cases c21 : 0 ≤ t106
    · rw [if_pos c21] at H
      have c21b0 : decide (0 ≤ t106) = true := decide_eq_true c21
      clear c21
      by_cases c22 : t106 < (t101.length : Int)
      · rw [if_pos c22] at H
        have c22b0 : decide (t106 < (t101.length : Int)) = true := decide_eq_true c22
        clear c22
        replace H := Option.bind_eq_some_iff.mp H
        obtain ⟨⟨t120, t121, t122⟩, A230, H⟩ := H
        replace H : (if ((rd_T41 t101 t106).f1).length < 17592186044416 then (some ((t101.set (t106 : Int).toNat (⟨(rd_T41 t101 t106).f0, (((rd_T41 t101 t106).f1) ++ [t120])⟩ : S41)), t121, t122)) else (none)) = some (r1, r2, r3) := H
        have A23 := Aside0.mk A230
        clear A230
        by_cases c24 : ((rd_T41 t101 t106).f1).length < 17592186044416
        · rw [if_pos c24] at H
          have LMc24 := Aside0.mk c24
          clear c24
          obtain ⟨y123, hy123⟩ : ∃ y_ : List Int, y_ = (((rd_T41 t101 t106).f1) ++ [t120]) := ⟨_, rfl⟩
          replace H : (some ((t101.set (t106 : Int).toNat (⟨(rd_T41 t101 t106).f0, y123⟩ : S41)), t121, t122)) = some (r1, r2, r3) := by first | (rw [hy123]; with_reducible exact H) | (have H2_ := (Option.bind_some _ _).symm.trans H; rw [hy123]; with_reducible exact H2_) | (have H2_ := (Option.bind_some _ _).symm.trans H; with_reducible exact H2_) | with_reducible exact H | (rw [hy123]; exact H) | exact H
          have Ny123 := Aside0.mk hy123
          clear hy123
          obtain ⟨y126, hy126⟩ : ∃ y_ : List (S41), y_ = (t101.set (t106 : Int).toNat (⟨(rd_T41 t101 t106).f0, y123⟩ : S41)) := ⟨_, rfl⟩
          replace H : (some (y126, t121, t122)) = some (r1, r2, r3) := by first | (rw [hy126]; with_reducible exact H) | (have H2_ := (Option.bind_some _ _).symm.trans H; rw [hy126]; with_reducible exact H2_) | (have H2_ := (Option.bind_some _ _).symm.trans H; with_reducible exact H2_) | with_reducible exact H | (rw [hy126]; exact H) | exact H
          have Ny126 := Aside0.mk hy126
          clear hy126
          simp only [Option.some.injEq, Prod.mk.injEq] at H
          obtain ⟨rfl, rfl, rfl⟩ := H
          go_enter Try.func44, Try.ntmps44
          try go_wp2_with (first | ((with_reducible refine gate_callee (f := 61) rfl ?_); refine gL (some 6) Try.func61 #[.pointer (some ⟨g, 0, none⟩)] ?_; (with_reducible refine (spec_l7DrawRight.calls k g s0_0 s0_1 s0_2 t101 t104 t105 w0 _ ?side1 ?side2 A2.out).mono ?_); (case side1 => exact iq56 HI0); (case side2 => exact bqs HB (IsS56.ge HI0.out)); rintro e w26 ⟨v102, rfl, ho0, hi, hb, hk⟩; refine ⟨_, rfl, ?_⟩; have n0_ := aM (Kd.S_lower ho0 (keep_size (w := w) (g := g) (row := none) (kk HK))); have n1_ := aM (KeepBut.trans (kk HK) hk (.inl rfl)); have n2_ := aM (hb); have n3_ := aM (hi); clear HK HB HI0; have HO103 := n0_; have HK := n1_; have HB := n2_; have HI0 := n3_; clear n0_ n1_ n2_ n3_; (try clear hb); (try clear hb2); (try clear hk); (try clear hi); (try clear ho0); obtain ⟨Ao27, co27, eo27⟩ := Kd.S_slice HO103.out; subst eo27) | ((with_reducible refine gate_callee (f := 30) rfl ?_); refine gL (some 10) Try.func30 #[.pointer (some ⟨g, 0, none⟩), .int .i64 (t101.length : Int)] ?_; (with_reducible refine (spec_l1Below.calls g s0_0 t104 t105 (t101.length : Int) t106 t107 t108 w0 _ ?side1 ?side2 A3.out).mono ?_); (case side1 => exact iq56 HI0); (case side2 => exact bqs HB (IsS56.ge HI0.out)); rintro e w28 ⟨rfl, hi, hb, hk⟩; refine ⟨_, rfl, ?_⟩; have n0_ := aM (Kd.S_mono (Kd.S_keep (IsS56.apartS (show IsS56 w0 _ g s0_0 t104 t105 from iq56 HI0) (sq HO103) (by decide)) hk (fun _ h => h.2)) (fun _ h => h.1)); have n1_ := aM (KeepBut.trans (kk HK) hk (.inl rfl)); have n2_ := aM (hb); have n3_ := aM (hi); clear HO103 HK HB HI0; have HO103 := n0_; have HK := n1_; have HB := n2_; have HI0 := n3_; clear n0_ n1_ n2_ n3_; (try clear hb); (try clear hb2); (try clear hk); (try clear hi)) | ((with_reducible refine gate_callee (f := 30) rfl ?_); refine gL (some 12) Try.func30 #[.pointer (some ⟨g, 0, none⟩), .int .i64 20] ?_; (with_reducible refine (spec_l1Below.calls g s0_0 t107 t108 20 t109 t110 t111 w0 _ ?side1 ?side2 A4.out).mono ?_); (case side1 => exact iq56 HI0); (case side2 => exact bqs HB (IsS56.ge HI0.out)); rintro e w29 ⟨rfl, hi, hb, hk⟩; refine ⟨_, rfl, ?_⟩; have n0_ := aM (Kd.S_mono (Kd.S_keep (IsS56.apartS (show IsS56 w0 _ g s0_0 t107 t108 from iq56 HI0) (sq HO103) (by decide)) hk (fun _ h => h.2)) (fun _ h => h.1)); have n1_ := aM (KeepBut.trans (kk HK) hk (.inl rfl)); have n2_ := aM (hb); have n3_ := aM (hi); clear HO103 HK HB HI0; have HO103 := n0_; have HK := n1_; have HB := n2_; have HI0 := n3_; clear n0_ n1_ n2_ n3_; (try clear hb); (try clear hb2); (try clear hk); (try clear hi)))
          have n0_ := aM (Kd.S_drew HO103.out)
          have n1_ := aM (IsS56.drew HI0.out)
          have n2_ := aM (keep_drew HK.out)
          have n3_ := aM (below_drew1 HB.out)
          clear HO103 HI0 HK HB
          have HO103 := n0_
          have HI0 := n1_
          have HK := n2_
          have HB := n3_
          clear n0_ n1_ n2_ n3_
          have p119 : 0 ≤ (t106 : Int) := dA
          have q119 : t106 < (t101.length : Int) := dA
          obtain ⟨ad119, A119_1, c119_1, e119, hx119_0, hx119_1, hl119_1, hi119_1⟩ := at_T41 (Kd.S_reads' HO103.out).2.2 t106 p119 q119
          cases e119
          obtain ⟨ce119, hce119, hMe119, hcc119⟩ := Kd.S_get HO103.out z41 t106 p119 (by first | exact q119 | exact dA | (have e_ := (Kd.S_reads' HO103.out).1; omega))
          obtain ⟨ve119_1, rfl, ge119_1⟩ := k41_openM hMe119
          have hv119_1 := hcc119 1 _ rfl
          rw [add_field _ _ 1 (by omega)] at hv119_1
          replace hv119_1 := Option.some.inj (hv119_1.symm.trans hx119_1)
          rw [hv119_1] at ge119_1
          have HL119_1 := aM (show Kd.R (Kd.int .i64) 3 _ _ _ _ ((rd_T41 t101 t106).f1) from ge119_1)
          clear hv119_1 ge119_1
          have HX119_1 := Aside0.mk hx119_1
          clear hcc119 hce119
          have HR119_1 := Aside0.mk hi119_1
          have HC119_1 := Aside0.mk hl119_1
          clear hi119_1 hl119_1
          replace p119 := eq_true p119
          replace q119 := eq_true q119
          refine start_ (n := 14) (S := fun w' => w'.cell? (ad119.add ((t106).toNat * 2)) = some (.int .i64 ((rd_T41 t101 t106).f0)) ∧ w'.cell? ⟨(ad119.add ((t106).toNat * 2)).block, (ad119.add ((t106).toNat * 2)).off + 1, none⟩ = some (.slice A119_1 ((rd_T41 t101 t106).f1).length c119_1)) (ds := [13]) (mA 14 0) (by kernel_rfl) rfl rfl ⟨hx119_0, hx119_1⟩ (fun hHeld => ?_); refine with_tabW spec_l7Draw.tab7 spec_l7Draw.bits7 (fun HT_ HW_ => ?_)
          generalize w29.drew = w30 at HO103 HI0 HK HB HL119_1 HR119_1 HX119_1 hx119_0 hx119_1 hHeld ⊢
          refine pQ (i := 0) (N := some 24) (mA 14 1) (any_of HT_.out (by kernel_rfl)) ?_
          refine pQ (i := 1) (N := some 25) (mA 14 3) (any_of HT_.out (by kernel_rfl)) ?_
          refine pQ (i := 2) (N := some 26) (mA 14 7) (any_of HT_.out (by kernel_rfl)) ?_
          refine pQ (i := 3) (N := some 27) (mA 14 15) (any_of HT_.out (by kernel_rfl)) ?_
          refine pQ (i := 4) (N := some 28) (mA 14 31) (any_of HT_.out (by kernel_rfl)) ?_
          refine pQ (i := 5) (N := some 29) (mA 14 63) (any_of HT_.out (by kernel_rfl)) ?_
          refine pQ (i := 7) (N := some 31) (mA 14 191) (any_of HT_.out (by kernel_rfl)) ?_
          refine tQ (i := 6) (N := some 30) (mA 14 255) (take_ofW HT_.out HW_.out (by kernel_rfl)) hHeld ?_
          refine one_ (i := 8) (N := some 32) (mA 14 511) rfl rfl (one_of HT_.out (by kernel_rfl)) (by decide) (fun K hK => ?_)
          refine goes_ Try.func30 (by kernel_rfl) rfl #[.pointer (some ⟨g, 0, none⟩), .int .i64 8] (by rfl) rfl rfl (by (try simp only [List.map_toArray, List.map_cons, List.map_nil]); first | done | rfl | (simp only [List.length_drop, List.length_take]; rfl)) ?_
          with_reducible refine (spec_l1Below.calls g s0_0 t110 t111 8 t120 t121 t122 w0 _ ?side1 ?side2 A23.out).mono ?_
          (case side1 => exact iq56 HI0)
          (case side2 => exact bqs HB (IsS56.ge HI0.out))
          rintro e w31 ⟨rfl, hi, hb, hk⟩
          have HS0_ := keep_cell hk (hHeld.1) (by first | (rw [add_block]; exact Kd.own_blk (IsS56.own_neS HI0.out HO103.out (by decide))) | (show (Addr.add _ _).block ≠ _; rw [add_block]; exact Kd.own_blk (IsS56.own_neS HI0.out HO103.out (by decide))) | exact Kd.own_blk (IsS56.own_neS HI0.out HO103.out (by decide)))
          have HS1_ := keep_cell hk (hHeld.2) (by first | (rw [add_block]; exact Kd.own_blk (IsS56.own_neS HI0.out HO103.out (by decide))) | (show (Addr.add _ _).block ≠ _; rw [add_block]; exact Kd.own_blk (IsS56.own_neS HI0.out HO103.out (by decide))) | exact Kd.own_blk (IsS56.own_neS HI0.out HO103.out (by decide)))
          refine ⟨_, rfl, ?_⟩
          have n0_ := aM (Kd.S_mono (Kd.S_keep (IsS56.apartS (show IsS56 w0 _ g s0_0 t110 t111 from iq56 HI0) (sq HO103) (by decide)) hk (fun _ h => h.2)) (fun _ h => h.1))
          have n1_ := aM (Kd.R_mono (Kd.R_keep (IsS56.apart (show IsS56 w0 _ g s0_0 t110 t111 from iq56 HI0) (rq HL119_1) (by decide)) hk (fun _ h => h.2)) (fun _ h => h.1))
          have n2_ := aM (keep_cell hk HX119_1.out (by first | (rw [add_block]; exact Kd.own_blk (IsS56.own_neS HI0.out HO103.out (by decide))) | (show (Addr.add _ _).block ≠ _; rw [add_block]; exact Kd.own_blk (IsS56.own_neS HI0.out HO103.out (by decide))) | exact Kd.own_blk (IsS56.own_neS HI0.out HO103.out (by decide)) | (dsimp only; exact Kd.own_blk (IsS56.own_neS HI0.out HO103.out (by decide)))))
          have n3_ := aM (KeepBut.trans (kk HK) hk (.inl rfl))
          have n4_ := aM (hb)
          have n5_ := aM (hi)
          clear HO103 HL119_1 HX119_1 HK HB HI0
          have HO103 := n0_
          have HL119_1 := n1_
          have HX119_1 := n2_
          have HK := n3_
          have HB := n4_
          have HI0 := n5_
          clear n0_ n1_ n2_ n3_ n4_ n5_
          (try clear hb)
          (try clear hb2)
          (try clear hk)
          (try clear hi)
          obtain ⟨go32, co32, eo32, gb32, gl32, cl32, HG32⟩ := Kd.S_form HO103.out (by have h_ : (t106 : Int) < ((t101.length : Int) : Int) := dA; have h2_ : 0 ≤ (t106 : Int) := (dA); omega)
          (first | cases eo32 | (injection eo32 with ea_ en_ ec_; (first | subst ea_ | (injection ea_ with ea_; subst ea_)); subst ec_; clear en_))
          have GB32 := Aside0.mk gb32
          have GG32 := Aside0.mk HG32
          clear gb32 gl32 HG32
          (first | simp only [add_plain] at hx119_0 | skip)
          (first | simp only [add_plain] at hx119_1 | skip)
          obtain ⟨oki32, ce32, hcl32, hM32, hcc32, _, _, hH32⟩ := Kd.S_elem HO103.out z41 (t106 : Int) (dA) (by have h_ : (t106 : Int) < ((t101.length : Int) : Int) := dA; first | exact h_ | (have e_ := (Kd.S_reads' HO103.out).1; omega) | simpa using h_)
          obtain ⟨ve32_1, rfl, ge32_1⟩ := k41_openM hM32
          have hv32 := hcc32 1 _ rfl
          have hX32 := HX119_1.out
          (try simp only [add_plain] at hX32)
          (try simp only [Nat.add_zero] at hv32)
          replace hv32 := Option.some.inj (hv32.symm.trans hX32)
          subst hv32
          clear hX32 hcc32 hcl32
          have UU32 := aM (show Kd.R (Kd.int .i64) 3 _ w.heap.size oki32 (.slice A119_1 ((rd_T41 t101 t106).f1).length c119_1) ((rd_T41 t101 t106).f1) from ge32_1)
          have HH32 := Aside0.mk hH32
          have HN32 := aM (Kd.S_reads' HO103.out).1
          clear hH32 ge32_1
          refine hK.out _ _ ⟨HS0_, HS1_⟩ (fun hHeld => ?_)
          clear hK K
          refine nQ (N := some 32) ?_
          refine one_ (i := 9) (N := some 33) (mA 14 1023) rfl rfl (one_of HT_.out (by kernel_rfl)) (by decide) (fun K hK => ?_)
          refine value_ (w1 := ?_) (v := ?_) (by rfl) rfl ?_ ?_
          rotate_left 2
          · go_simp
            constructor
            · rfl
            rfl
          refine hK.out _ _ ⟨(World.cell?_alloc_lt _ _ _ (World.block_lt_of_cell? _ _ (hHeld.1))).trans (hHeld.1), (World.cell?_alloc_lt _ _ _ (World.block_lt_of_cell? _ _ (hHeld.2))).trans (hHeld.2)⟩ (fun hHeld => ?_)
          clear hK K
          refine nQ (N := some 33) ?_
          refine one_ (i := 10) (N := some 34) (mA 14 2047) rfl rfl (one_of HT_.out (by kernel_rfl)) (by decide) (fun K hK => ?_)
          refine Kd.R_append_step (Kd.int .i64) w.heap.size (by rfl) (.tmp 30) (.tmp 33) 39 3 (.int .i64 0) 8 rfl Try.underlying39 info3 rfl (by decide) (by omega) (.slice A119_1 ((rd_T41 t101 t106).f1).length c119_1) ((rd_T41 t101 t106).f1) t120 [.int .i64 t120] (fun k_ => oki32 k_ ∨ ((fun _ => True)) k_ ∧ w31.heap.size ≤ k_) (fun _ => False) rfl rfl ?aP (fun _ hk => hk.elim) ?aF ?aO (Below.refl _ _) ?aS ?aL ?_
          (case aP => exact rfl)
          (case aF => exact (fun k_ hk => .inr ⟨trivial, hk⟩))
          (case aO => exact (by (with_reducible repeat (first | apply Kd.R_alloc | apply Kd.R_drewN | apply Kd.R_drew)); exact Kd.R_mono UU32.out (fun _ hk => .inl hk)))
          (case aS => exact (keep_size (w := w) (g := g) (row := none) (kk HK)))
          (case aL => have := LMc24.out; omega)
          intro v124 w33 ho hb hg hat
          (first | have HS0_ := cell_grown hg (hHeld.1) (by first | (rw [add_block]; exact (fun e_ => ((HL119_1.out.1 _ e_.symm).2) rfl)) | (show some (Addr.add _ _).block ≠ _; rw [add_block]; exact (fun e_ => ((HL119_1.out.1 _ e_.symm).2) rfl)) | exact (fun e_ => ((HL119_1.out.1 _ e_.symm).2) rfl)) | have HS0_ := cell_grown hg (cell_unalloc (hHeld.1) (by first | (rw [add_block]; exact Kd.S_lt HO103.out _ rfl) | (show (Addr.add _ _).block < _; rw [add_block]; exact Kd.S_lt HO103.out _ rfl) | exact Kd.S_lt HO103.out _ rfl)) (by first | (rw [add_block]; exact (fun e_ => ((HL119_1.out.1 _ e_.symm).2) rfl)) | (show some (Addr.add _ _).block ≠ _; rw [add_block]; exact (fun e_ => ((HL119_1.out.1 _ e_.symm).2) rfl)) | exact (fun e_ => ((HL119_1.out.1 _ e_.symm).2) rfl)))
          (first | have HS1_ := cell_grown hg (hHeld.2) (by first | (rw [add_block]; exact (fun e_ => ((HL119_1.out.1 _ e_.symm).2) rfl)) | (show some (Addr.add _ _).block ≠ _; rw [add_block]; exact (fun e_ => ((HL119_1.out.1 _ e_.symm).2) rfl)) | exact (fun e_ => ((HL119_1.out.1 _ e_.symm).2) rfl)) | have HS1_ := cell_grown hg (cell_unalloc (hHeld.2) (by first | (rw [add_block]; exact Kd.S_lt HO103.out _ rfl) | (show (Addr.add _ _).block < _; rw [add_block]; exact Kd.S_lt HO103.out _ rfl) | exact Kd.S_lt HO103.out _ rfl)) (by first | (rw [add_block]; exact (fun e_ => ((HL119_1.out.1 _ e_.symm).2) rfl)) | (show some (Addr.add _ _).block ≠ _; rw [add_block]; exact (fun e_ => ((HL119_1.out.1 _ e_.symm).2) rfl)) | exact (fun e_ => ((HL119_1.out.1 _ e_.symm).2) rfl)))
          rw [← Ny123.out] at ho
          have n0_ := aM (IsS56.grown (iq56 HI0) hg (IsS56.own_ne HI0.out HL119_1.out (by decide)))
          have n1_ := aM (below_weaken (bqs HB (IsS56.ge HI0.out)) HL.out hb)
          have n2_ := aM (KeepBut.trans (kk HK) (KeepBut.of_grown hg g) (Kd.R_base2 HL119_1.out))
          have n3_ := aM (Kd.H_grown (Kd.H_widen (by repeat (first | exact HH32.out | refine Kd.H_alloc ?_ _ | refine Kd.H_drewN ?_ _ | refine Kd.H_drew ?_))) hg (fun k_ e_ => .inl (UU32.out.1 k_ e_)))
          have n4_ := aM (ho)
          clear HI0 HB HK HH32 HO103 UU32 HL119_1
          have HI0 := n0_
          have HB := n1_
          have HK := n2_
          have HH32 := n3_
          have HO125 := n4_
          clear n0_ n1_ n2_ n3_ n4_
          clear ho hb hg hat
          have p25 : 0 ≤ (t106 : Int) := dA
          have q25 : (t106 : Int) < ((t101.length : Int) : Int) := dA
          replace p25 := eq_true p25
          replace q25 := eq_true q25
          obtain ⟨Ao36, co36, eo36⟩ := Kd.R_slice HO125.out
          (first | subst eo36 | (injection eo36 with f1_ f2_ f3_; have f4_ := f1_.symm; have f5_ := f3_.symm; clear f1_ f2_ f3_; subst f4_; subst f5_))
          obtain ⟨_, _, hraw34, _, _, hcc34, _⟩ := Kd.H_raw HH32.out (dA) (by have h_ : (t106 : Int) < ((t101.length : Int) : Int) := dA; first | exact h_ | (have e_ := (HN32.out); omega) | simpa using h_)
          obtain ⟨_, hfr34⟩ := Kd.H_at HH32.out (dA) (by have h_ : (t106 : Int) < ((t101.length : Int) : Int) := dA; first | exact h_ | (have e_ := (HN32.out); omega) | simpa using h_)
          have hx34_0 := hcc34 1 _ rfl
          have hf34_0 := hfr34 1
          (try rw [show (k41).sz = 2 from rfl] at hx34_0)
          (try rw [show (k41).sz = 2 from rfl] at hf34_0)
          have HP34 := Kd.S_seg0 HH32.out (dA) (by have h_ : (t106 : Int) < ((t101.length : Int) : Int) := dA; first | exact h_ | (have e_ := (HN32.out); omega) | simpa using h_) (seg := [.slice Ao36 y123.length co36]) (j := 1) (show 2 ≤ 2 from by decide) (x' := (⟨(rd_T41 t101 t106).f0, y123⟩ : S41)) (k41_mkM _ _ _ (⟨(rd_T41 t101 t106).f0, y123⟩ : S41) HO125.out) (fun _ hk => hk)
          clear hcc34 hfr34
          have HN0_go32 := aM (show g ≠ go32 from by have h_ := IsS56.own_ne HI0.out hraw34 (by decide); intro e_; exact h_ (by rw [e_]; rfl))
          have HS34 := HP34.1
          rw [← Ny126.out] at HS34
          have HQ34 := Aside0.mk HS34
          obtain ⟨_, hgg34⟩ := Kd.R_typed hraw34 go32 rfl
          have GG34_ := Aside0.mk hgg34
          clear HP34 HS34 hgg34
          refine hK.out _ _ ⟨HS0_, HS1_⟩ (fun hHeld => ?_)
          clear hK K
          refine nQ (N := some 34) ?_
          refine pQ (i := 11) (N := some 35) (mA 14 4095) (any_of HT_.out (by kernel_rfl)) ?_
          refine pQ (i := 12) (N := some 36) (mA 14 8191) (any_of HT_.out (by kernel_rfl)) ?_
          refine last_ (i := 13) (N := none) (mA 14 16383) rfl rfl (one_of HT_.out (by kernel_rfl)) (by decide) (fun K hK => ?_)
          refine skip_ (w1 := ?_) (by rfl) rfl ?_ ?_
          rotate_left
          · go_simp
            rfl
          refine hK.out _ _ ?_
          clear hK K
          refine done_ (done_of HT_.out (by kernel_rfl)) ?_
          try go_wp2
          go_ret
          exact ⟨_, sR, by (with_reducible repeat (first | apply Kd.S_alloc | apply Kd.S_drewN | apply Kd.S_drew)); exact HQ34.out, iq56 HI0, by repeat (first | (with_reducible first | exact HB.out | apply beA | apply beD | apply bed | refine beS ?_ (Nat.le_trans HL.out GB32.out) | refine beS ?_ (IsS56.ge HI0.out)) | exact HB.out), by repeat (first | (with_reducible first | exact HK.out | apply KeepBut.set_ | apply keep_drewN | apply keep_drew | apply keep_alloc | refine keep_far ?_ GB32.out _) | exact HK.out)⟩
        rw [if_neg c24] at H
        exact absurd H (by simp)
      rw [if_neg c22] at H
      exact absurd H (by simp)
    rw [if_neg c21] at H
    exact absurd H (by simp)
  rw [if_neg c20] at H
  have c20b0 : (t109 == 1) = false := beq_eq_false_iff_ne.mpr c20
  have c20b1 : (t109 != 1) = true := bne_iff_ne.mpr c20
  by_cases c37 : t109 = 2
  · rw [if_pos c37] at H
    have c37b0 : (t109 == 2) = true := beq_iff_eq.mpr c37
    have c37b1 : (t109 != 2) = false := bne_eq_false_iff_eq.mpr c37
    clear c37
    replace H := Option.bind_eq_some_iff.mp H
    obtain ⟨⟨t127, t128, t129⟩, A380, H⟩ := H
    replace H : (if 0 ≤ (wrap64 (5 + t127)) then (if (wrap64 (5 + t127) : Int).toNat ≤ 8796093022208 then (some ((List.replicate (wrap64 (5 + t127) : Int).toNat z41), t128, t129)) else (none)) else (none)) = some (r1, r2, r3) := H
    have A38 := Aside0.mk A380
    clear A380
    obtain ⟨ji39, hji39⟩ : ∃ j_ : Int, (wrap64 (5 + t127)) = j_ := ⟨_, rfl⟩
    replace H : (if 0 ≤ (ji39) then (if (ji39 : Int).toNat ≤ 8796093022208 then (some ((List.replicate (ji39 : Int).toNat z41), t128, t129)) else (none)) else (none)) = some (r1, r2, r3) := by first | (rw [hji39] at H; exact H) | (simp only [hji39] at H ⊢; exact H)
    (try rw [hji39] at A2)
    (try rw [hji39] at A3)
    (try rw [hji39] at A4)
    (try rw [hji39] at A38)
    have hji39w : (IntKind.i64.wrap (5 + t127)) = ji39 := (i64_w _).trans hji39
    by_cases c40 : 0 ≤ (ji39)
    · rw [if_pos c40] at H
      have c40b0 := eq_true c40
      have c40b1 : decide (0 ≤ (ji39)) = true := decide_eq_true c40
      clear c40
      by_cases c41 : (ji39 : Int).toNat ≤ 8796093022208
      · rw [if_pos c41] at H
        have c41b0 := eq_true c41
        have c41b1 : decide ((ji39 : Int).toNat ≤ 8796093022208) = true := decide_eq_true c41
        clear c41
        obtain ⟨y130, hy130⟩ : ∃ y_ : List (S41), y_ = (List.replicate (ji39 : Int).toNat z41) := ⟨_, rfl⟩
        replace H : (some (y130, t128, t129)) = some (r1, r2, r3) := by first | (rw [hy130]; with_reducible exact H) | (have H2_ := (Option.bind_some _ _).symm.trans H; rw [hy130]; with_reducible exact H2_) | (have H2_ := (Option.bind_some _ _).symm.trans H; with_reducible exact H2_) | with_reducible exact H | (rw [hy130]; exact H) | exact H
        have Ny130 := Aside0.mk hy130
        clear hy130
        simp only [Option.some.injEq, Prod.mk.injEq] at H
        obtain ⟨rfl, rfl, rfl⟩ := H
        go_enter Try.func44, Try.ntmps44
        go_wp2_with (first | ((with_reducible refine gate_callee (f := 61) rfl ?_); refine gL (some 6) Try.func61 #[.pointer (some ⟨g, 0, none⟩)] ?_; (with_reducible refine (spec_l7DrawRight.calls k g s0_0 s0_1 s0_2 t101 t104 t105 w0 _ ?side1 ?side2 A2.out).mono ?_); (case side1 => exact iq56 HI0); (case side2 => exact bqs HB (IsS56.ge HI0.out)); rintro e w42 ⟨v102, rfl, ho0, hi, hb, hk⟩; refine ⟨_, rfl, ?_⟩; have n0_ := aM (Kd.S_lower ho0 (keep_size (w := w) (g := g) (row := none) (kk HK))); have n1_ := aM (KeepBut.trans (kk HK) hk (.inl rfl)); have n2_ := aM (hb); have n3_ := aM (hi); clear HK HB HI0; have HO103 := n0_; have HK := n1_; have HB := n2_; have HI0 := n3_; clear n0_ n1_ n2_ n3_; (try clear hb); (try clear hb2); (try clear hk); (try clear hi); (try clear ho0); obtain ⟨Ao43, co43, eo43⟩ := Kd.S_slice HO103.out; subst eo43) | ((with_reducible refine gate_callee (f := 30) rfl ?_); refine gL (some 10) Try.func30 #[.pointer (some ⟨g, 0, none⟩), .int .i64 (t101.length : Int)] ?_; (with_reducible refine (spec_l1Below.calls g s0_0 t104 t105 (t101.length : Int) t106 t107 t108 w0 _ ?side1 ?side2 A3.out).mono ?_); (case side1 => exact iq56 HI0); (case side2 => exact bqs HB (IsS56.ge HI0.out)); rintro e w44 ⟨rfl, hi, hb, hk⟩; refine ⟨_, rfl, ?_⟩; have n0_ := aM (Kd.S_mono (Kd.S_keep (IsS56.apartS (show IsS56 w0 _ g s0_0 t104 t105 from iq56 HI0) (sq HO103) (by decide)) hk (fun _ h => h.2)) (fun _ h => h.1)); have n1_ := aM (KeepBut.trans (kk HK) hk (.inl rfl)); have n2_ := aM (hb); have n3_ := aM (hi); clear HO103 HK HB HI0; have HO103 := n0_; have HK := n1_; have HB := n2_; have HI0 := n3_; clear n0_ n1_ n2_ n3_; (try clear hb); (try clear hb2); (try clear hk); (try clear hi)) | ((with_reducible refine gate_callee (f := 30) rfl ?_); refine gL (some 12) Try.func30 #[.pointer (some ⟨g, 0, none⟩), .int .i64 20] ?_; (with_reducible refine (spec_l1Below.calls g s0_0 t107 t108 20 t109 t110 t111 w0 _ ?side1 ?side2 A4.out).mono ?_); (case side1 => exact iq56 HI0); (case side2 => exact bqs HB (IsS56.ge HI0.out)); rintro e w45 ⟨rfl, hi, hb, hk⟩; refine ⟨_, rfl, ?_⟩; have n0_ := aM (Kd.S_mono (Kd.S_keep (IsS56.apartS (show IsS56 w0 _ g s0_0 t107 t108 from iq56 HI0) (sq HO103) (by decide)) hk (fun _ h => h.2)) (fun _ h => h.1)); have n1_ := aM (KeepBut.trans (kk HK) hk (.inl rfl)); have n2_ := aM (hb); have n3_ := aM (hi); clear HO103 HK HB HI0; have HO103 := n0_; have HK := n1_; have HB := n2_; have HI0 := n3_; clear n0_ n1_ n2_ n3_; (try clear hb); (try clear hb2); (try clear hk); (try clear hi)) | ((with_reducible refine gate_callee (f := 30) rfl ?_); refine gL (some 40) Try.func30 #[.pointer (some ⟨g, 0, none⟩), .int .i64 2] ?_; (with_reducible refine (spec_l1Below.calls g s0_0 t110 t111 2 t127 t128 t129 w0 _ ?side1 ?side2 A38.out).mono ?_); (case side1 => exact iq56 HI0); (case side2 => exact bqs HB (IsS56.ge HI0.out)); rintro e w46 ⟨rfl, hi, hb, hk⟩; refine ⟨_, rfl, ?_⟩; have n0_ := aM (Kd.S_mono (Kd.S_keep (IsS56.apartS (show IsS56 w0 _ g s0_0 t110 t111 from iq56 HI0) (sq HO103) (by decide)) hk (fun _ h => h.2)) (fun _ h => h.1)); have n1_ := aM (KeepBut.trans (kk HK) hk (.inl rfl)); have n2_ := aM (hb); have n3_ := aM (hi); clear HO103 HK HB HI0; have HO103 := n0_; have HK := n1_; have HB := n2_; have HI0 := n3_; clear n0_ n1_ n2_ n3_; (try clear hb); (try clear hb2); (try clear hk); (try clear hi)) | ((with_reducible refine gate_dst (N := 42) rfl ?_); refine Kd.S_make k41 _ 41 rfl (N := 42) rfl 25 _ _ rfl ji39 rfl rfl Try.underlying25 (.agg #[(.int .i64 0), (.slice none 0 0)]) 32 info41 rfl (by decide) (by omega) z41 (ok := fun _ => True) (okp := fun _ => True) (k41_mkM _ _ _ z41 (Kd.R_nil _ _ _ _ _)) (fun _ hk => hk) trivial (dA) (Nat.le_trans (Nat.mul_le_mul_right _ (dA : ji39.toNat ≤ 8796093022208)) (by omega)) (Below.refl _ _) (Nat.le_refl _) ?_; intro v131 w47 ho48 hb hg_ hnew_; clear hg_ hnew_; (first | rw [← Ny130.out] at ho48 | (simp only [Int.reduceToNat] at ho48; rw [← Ny130.out] at ho48)); have n0_ := aM (Kd.S_elder' (sq HO103) (Kd.S_base ho48) hb); have n1_ := aM (Kd.S_lower (Kd.S_new' ho48 (Kd.S_lt (sq HO103))) (keep_size (w := w) (g := g) (row := none) (kk HK))); have n2_ := aM (IsS56.below (iq56 HI0) hb); have n3_ := aM (KeepBut.trans (kk HK) (KeepBut.of_below hb g none) (.inl rfl)); have n4_ := aM (below_step (bqs HB (IsS56.ge HI0.out)) hb); clear HO103 HI0 HK HB; have HO103 := n0_; have HO132 := n1_; have HI0 := n2_; have HK := n3_; have HB := n4_; clear n0_ n1_ n2_ n3_ n4_; clear hb ho48))
        go_ret
        exact ⟨_, by first | rfl | (simp [errW_none, errW_some] <;> rfl) | (simp only [← hji39]; first | rfl | (simp [errW_none, errW_some] <;> rfl)) | (simp [*, errW_none, errW_some] <;> rfl), by (with_reducible repeat (first | apply Kd.S_alloc | apply Kd.S_drewN | apply Kd.S_drew)); exact Kd.S_mono HO132.out (fun _ hk => trivial), iq56 HI0, bqs HB (IsS56.ge HI0.out), kk HK⟩
      rw [if_neg c41] at H
      exact absurd H (by simp)
    rw [if_neg c40] at H
    exact absurd H (by simp)
  rw [if_neg c37] at H
  have c37b0 : (t109 == 2) = false := beq_eq_false_iff_ne.mpr c37
  have c37b1 : (t109 != 2) = true := bne_iff_ne.mpr c37
  simp only [Option.some.injEq, Prod.mk.injEq] at H
  obtain ⟨rfl, rfl, rfl⟩ := H
  go_enter Try.func44, Try.ntmps44
  go_wp2_with (first | ((with_reducible refine gate_callee (f := 61) rfl ?_); refine gL (some 6) Try.func61 #[.pointer (some ⟨g, 0, none⟩)] ?_; (with_reducible refine (spec_l7DrawRight.calls k g s0_0 s0_1 s0_2 t101 t104 t105 w0 _ ?side1 ?side2 A2.out).mono ?_); (case side1 => exact iq56 HI0); (case side2 => exact bqs HB (IsS56.ge HI0.out)); rintro e w49 ⟨v102, rfl, ho0, hi, hb, hk⟩; refine ⟨_, rfl, ?_⟩; have n0_ := aM (Kd.S_lower ho0 (keep_size (w := w) (g := g) (row := none) (kk HK))); have n1_ := aM (KeepBut.trans (kk HK) hk (.inl rfl)); have n2_ := aM (hb); have n3_ := aM (hi); clear HK HB HI0; have HO103 := n0_; have HK := n1_; have HB := n2_; have HI0 := n3_; clear n0_ n1_ n2_ n3_; (try clear hb); (try clear hb2); (try clear hk); (try clear hi); (try clear ho0); obtain ⟨Ao50, co50, eo50⟩ := Kd.S_slice HO103.out; subst eo50) | ((with_reducible refine gate_callee (f := 30) rfl ?_); refine gL (some 10) Try.func30 #[.pointer (some ⟨g, 0, none⟩), .int .i64 (t101.length : Int)] ?_; (with_reducible refine (spec_l1Below.calls g s0_0 t104 t105 (t101.length : Int) t106 t107 t108 w0 _ ?side1 ?side2 A3.out).mono ?_); (case side1 => exact iq56 HI0); (case side2 => exact bqs HB (IsS56.ge HI0.out)); rintro e w51 ⟨rfl, hi, hb, hk⟩; refine ⟨_, rfl, ?_⟩; have n0_ := aM (Kd.S_mono (Kd.S_keep (IsS56.apartS (show IsS56 w0 _ g s0_0 t104 t105 from iq56 HI0) (sq HO103) (by decide)) hk (fun _ h => h.2)) (fun _ h => h.1)); have n1_ := aM (KeepBut.trans (kk HK) hk (.inl rfl)); have n2_ := aM (hb); have n3_ := aM (hi); clear HO103 HK HB HI0; have HO103 := n0_; have HK := n1_; have HB := n2_; have HI0 := n3_; clear n0_ n1_ n2_ n3_; (try clear hb); (try clear hb2); (try clear hk); (try clear hi)) | ((with_reducible refine gate_callee (f := 30) rfl ?_); refine gL (some 12) Try.func30 #[.pointer (some ⟨g, 0, none⟩), .int .i64 20] ?_; (with_reducible refine (spec_l1Below.calls g s0_0 t107 t108 20 t109 t110 t111 w0 _ ?side1 ?side2 A4.out).mono ?_); (case side1 => exact iq56 HI0); (case side2 => exact bqs HB (IsS56.ge HI0.out)); rintro e w52 ⟨rfl, hi, hb, hk⟩; refine ⟨_, rfl, ?_⟩; have n0_ := aM (Kd.S_mono (Kd.S_keep (IsS56.apartS (show IsS56 w0 _ g s0_0 t107 t108 from iq56 HI0) (sq HO103) (by decide)) hk (fun _ h => h.2)) (fun _ h => h.1)); have n1_ := aM (KeepBut.trans (kk HK) hk (.inl rfl)); have n2_ := aM (hb); have n3_ := aM (hi); clear HO103 HK HB HI0; have HO103 := n0_; have HK := n1_; have HB := n2_; have HI0 := n3_; clear n0_ n1_ n2_ n3_; (try clear hb); (try clear hb2); (try clear hk); (try clear hi)))
  go_ret
  exact ⟨_, sR, by (with_reducible repeat (first | apply Kd.S_alloc | apply Kd.S_drewN | apply Kd.S_drew)); exact HO103.out, iq56 HI0, bqs HB (IsS56.ge HI0.out), kk HK⟩

end Go.Proofs.Ythmcgbjfcjbhkaa.Print
