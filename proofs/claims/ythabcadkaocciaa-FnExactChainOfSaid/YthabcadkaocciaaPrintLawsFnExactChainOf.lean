/- Go functions as plain Lean functions, and that the Go code answers just as these, wherever they answer. Conditions: those of each theorem. Written by a program of this session (wip/patch.py). -/
import Derived.Test.YthabcadkaocciaaPrint0
import Derived.Test.YthabcadkaocciaaPrintImplLocksOk
import Derived.Test.YthabcadkaocciaaPrintLawsEqLockS
import Derived.Test.YthabcadkaocciaaPrintLawsToIntS
import Derived.Test.YthabcadkaocciaaPrintSlicesIndexIntInt
import Derived.Test.YthabcadkaocciaaPrintSpecChainOf
namespace Go.Proofs.Ythabcadkaocciaa.Print
open Go.RowKit Go.Proofs.Ythabcadkaocciaa.Base Go.Proofs.YthabcadkaocciaaW.PrintWords Go.Proofs.YthabcadkaocciaaW.PrintLast Go.Proofs.YthabcadkaocciaaW.PrintMore
attribute [local go_sem] max2_int min2_int max_two min_two max_three min_three max_four min_four   -- for this text's walks alone
set_option linter.unusedVariables false
set_option linter.unusedSimpArgs false

/-! ### laws_FnExactChainOf: function 3, by hand -/
-- MANUAL rounds=yes making=yes
-- LAW
def laws_FnExactChainOf.f (k : Nat) (l0 : List (S41)) (a1 : Int) : Option Bool := (laws_szLockS.f k l0 1048576).bind fun t => if t < 0 then some true else (laws_toLockS.f k l0).bind fun x => (spec_ChainOf.f k x a1).bind fun s => (impl_ChainOf.f k x a1).bind fun g => (laws_eqIntS.f k g s).bind fun q1 => (laws_eqLockS.f k x x).bind fun q2 => (laws_markLockS.f k x 1).bind fun m => (laws_markIntS.f k g 1).bind fun n => (laws_heldIntS.f k n.2 1).bind fun h => if ((q1 = true ∧ q2 = true)) ∧ ¬ m.1 < 0 ∧ ¬ h < 0 ∧ h = n.1 then some true else none
set_option maxHeartbeats 8000000 in
set_option maxRecDepth 100000 in
theorem laws_FnExactChainOf.calls (k : Nat) (A0 : Option Addr) (c0 : Nat) (l0 : List (S41)) (a1 : Int) (r : Bool) (w : World) (hr0 : Kd.C k41 w A0 l0.length l0) (hc0 : l0.length ≤ c0) (hrt : r = true) (h : laws_FnExactChainOf.f k l0 a1 = some r) :
    Calls Try.prog 3 #[.slice A0 l0.length c0, .int .i64 a1] w fun e w' => e = .returned (.bool r) ∧ Below w.heap.size w w' := by
  have HR0 := Aside0.mk hr0
  have HC0 := Aside0.mk hc0
  clear hr0 hc0
  subst hrt
  unfold laws_FnExactChainOf.f at h
  obtain ⟨t, A1, h⟩ := Option.bind_eq_some_iff.mp h
  have A1 := Aside0.mk A1
  have T1 : Aside0 True := ⟨trivial⟩
  by_cases ht : t < 0
  · have htd : decide (t < 0) = true := decide_eq_true ht
    clear h ht
    go_enter Try.func3, Try.ntmps3
    go_wp2_with (clear T1; go_at_call 6; refine (laws_szLockS.calls k A0 c0 l0 1048576 t w HR0.out HC0.out A1.out).mono ?_; rintro e w1 ⟨rfl, hb⟩; have HB := aM hb; have Z1 := aM hb.size; clear hb)
    all_goals go_ret
    all_goals exact ⟨rfl, HB.out⟩
  rw [if_neg ht] at h
  have htd : decide (t < 0) = false := decide_eq_false ht
  clear ht
  obtain ⟨x, A2, h⟩ := Option.bind_eq_some_iff.mp h
  obtain ⟨s, A3, h⟩ := Option.bind_eq_some_iff.mp h
  obtain ⟨g, A4, h⟩ := Option.bind_eq_some_iff.mp h
  obtain ⟨q1, A5, h⟩ := Option.bind_eq_some_iff.mp h
  obtain ⟨q2, A6, h⟩ := Option.bind_eq_some_iff.mp h
  obtain ⟨⟨m, xm⟩, A7, h⟩ := Option.bind_eq_some_iff.mp h
  obtain ⟨⟨n, gm⟩, A8, h⟩ := Option.bind_eq_some_iff.mp h
  obtain ⟨hh, A9, h⟩ := Option.bind_eq_some_iff.mp h
  split at h
  rotate_left
  · cases h
  rename_i hcnd
  clear h
  obtain ⟨⟨hq1, hq2⟩, hm0, hh0, hhn⟩ := hcnd
  subst hq1
  subst hq2
  have hm0 : ¬ m < 0 := hm0
  have hhn : hh = n := hhn
  subst hhn
  have hmd : decide (m < 0) = false := decide_eq_false hm0
  have hhd : decide (hh < 0) = false := decide_eq_false hh0
  clear hm0 hh0
  have A2 := Aside0.mk A2
  have A3 := Aside0.mk A3
  have A4 := Aside0.mk A4
  have A5 := Aside0.mk A5
  have A6 := Aside0.mk A6
  have A7 := Aside0.mk A7
  have A8 := Aside0.mk A8
  have A9 := Aside0.mk A9
  have T2 : Aside0 True := ⟨trivial⟩
  have T3 : Aside0 True := ⟨trivial⟩
  have T4 : Aside0 True := ⟨trivial⟩
  have T5 : Aside0 True := ⟨trivial⟩
  have T6 : Aside0 True := ⟨trivial⟩
  have T7 : Aside0 True := ⟨trivial⟩
  have T8 : Aside0 True := ⟨trivial⟩
  have T9 : Aside0 True := ⟨trivial⟩
  have T10 : Aside0 True := ⟨trivial⟩
  have T11 : Aside0 True := ⟨trivial⟩
  have T12 : Aside0 True := ⟨trivial⟩
  have T13 : Aside0 True := ⟨trivial⟩
  have T14 : Aside0 True := ⟨trivial⟩
  have T15 : Aside0 True := ⟨trivial⟩
  have T16 : Aside0 True := ⟨trivial⟩
  go_enter Try.func3, Try.ntmps3
  go_wp2_with (first | (clear T1; go_at_call 6; refine (laws_szLockS.calls k A0 c0 l0 1048576 t w HR0.out HC0.out A1.out).mono ?_; rintro e w1 ⟨rfl, hb⟩; have HB := aM hb; have Z1 := aM hb.size; clear hb) | (clear T2; go_at_call 8; refine (laws_toLockS.calls k A0 c0 l0 x w1 (Kd.C_below HR0.out HB.out) HC0.out A2.out).mono ?_; rintro e w2 ⟨v_, rfl, ho, hb⟩; have Z2 := aM hb.size; have Fa := aM (bornS ho HB.out.size); have HB := aM (below_step HB.out hb); obtain ⟨Va, ca, rfl, _, _⟩ := Kd.S_reads Fa.out; clear hb ho) | (clear T3; go_at_call 7; refine (spec_ChainOf.calls k Va ca x a1 s w2 (Kd.S_reads' Fa.out).2.2 (Kd.S_reads' Fa.out).2.1 A3.out).mono ?_; rintro e w3 ⟨v_, rfl, ho, hb⟩; have Z3 := aM hb.size; have Fa := aM (Kd.S_below Fa.out hb); have FGsa := aM (bornR ho HB.out.size); have HB := aM (below_step HB.out hb); obtain ⟨VGsa, cGsa, rfl, _, _⟩ := Kd.R_reads FGsa.out; clear hb ho) | (clear T4; go_at_call 8; refine (laws_toLockS.calls k A0 c0 l0 x w3 (Kd.C_below HR0.out HB.out) HC0.out A2.out).mono ?_; rintro e w4 ⟨v_, rfl, ho, hb⟩; have Z4 := aM hb.size; clear Fa; have FGsa := aM (Kd.R_below FGsa.out hb); have Fb := aM (bornS ho HB.out.size); have HB := aM (below_step HB.out hb); obtain ⟨Vb, cb, rfl, _, _⟩ := Kd.S_reads Fb.out; clear hb ho) | (clear T5; go_at_call 9; refine (impl_ChainOf.calls k Vb cb x a1 g w4 (Kd.S_reads' Fb.out).2.2 (Kd.S_reads' Fb.out).2.1 A4.out).mono ?_; rintro e w5 ⟨v_, rfl, ho, hb⟩; have Z5 := aM hb.size; have FGsa := aM (Kd.R_below FGsa.out hb); have Fb := aM (Kd.S_below Fb.out hb); have FGgb := aM (bornR ho HB.out.size); have HB := aM (below_step HB.out hb); obtain ⟨VGgb, cGgb, rfl, _, _⟩ := Kd.R_reads FGgb.out; clear hb ho) | (clear T6; go_at_call 10; refine (laws_eqIntS.calls k VGgb cGgb g VGsa cGsa s true w5 (Kd.R_reads' FGgb.out).2.2 (Kd.R_reads' FGgb.out).2.1 (Kd.R_reads' FGsa.out).2.2 (Kd.R_reads' FGsa.out).2.1 A5.out).mono ?_; rintro e w6 ⟨rfl, hd⟩; have hb := hd.below; have Z6 := aM hb.size; have FGsa := aM (Kd.R_below FGsa.out hb); have Fb := aM (Kd.S_below Fb.out hb); have FGgb := aM (Kd.R_below FGgb.out hb); have HB := aM (below_step HB.out hb); clear hb hd) | (clear T7; go_at_call 8; refine (laws_toLockS.calls k A0 c0 l0 x w6 (Kd.C_below HR0.out HB.out) HC0.out A2.out).mono ?_; rintro e w7 ⟨v_, rfl, ho, hb⟩; have Z7 := aM hb.size; have FGsa := aM (Kd.R_below FGsa.out hb); have Fb := aM (Kd.S_below Fb.out hb); have FGgb := aM (Kd.R_below FGgb.out hb); have Fd := aM (bornS ho HB.out.size); have HB := aM (below_step HB.out hb); obtain ⟨Vd, cd, rfl, _, _⟩ := Kd.S_reads Fd.out; clear hb ho) | (clear T8; go_at_call 11; refine (laws_eqLockS.calls k Vb cb x Vd cd x true w7 (Kd.S_reads' Fb.out).2.2 (Kd.S_reads' Fb.out).2.1 (Kd.S_reads' Fd.out).2.2 (Kd.S_reads' Fd.out).2.1 A6.out).mono ?_; rintro e w8 ⟨rfl, hb⟩; have Z8 := aM hb.size; clear Fd; have FGsa := aM (Kd.R_below FGsa.out hb); have Fb := aM (Kd.S_below Fb.out hb); have FGgb := aM (Kd.R_below FGgb.out hb); have HB := aM (below_step HB.out hb); clear hb) | (clear T9; go_at_call 12; refine (laws_markLockS.calls k (fun k_ => w3.heap.size ≤ k_ ∧ k_ < w4.heap.size) (.slice Vb x.length cb) x 1 m xm w w8 HB.out Fb.out A7.out).mono ?_; rintro e w9 ⟨rfl, hy, hb, hk⟩; have Z9 := aM hk.1; have FGsa := aM (Kd.R_kept FGsa.out hk (fun k_ h1_ h2_ => Nat.lt_irrefl k_ (Nat.lt_of_lt_of_le h1_.2 (Nat.le_trans (Nat.le_refl _) h2_.1)))); have FGgb := aM (Kd.R_kept FGgb.out hk (fun k_ h1_ h2_ => Nat.lt_irrefl k_ (Nat.lt_of_lt_of_le h2_.2 (Nat.le_trans (Nat.le_refl _) h1_.1)))); have Fb := aM hy; have Nb := aM (Kd.S_reads' hy).1; have HB := aM hb; clear hb hk hy; clear Fb Nb) | (clear T10; go_at_call 10; refine (laws_eqIntS.calls k VGgb cGgb g VGsa cGsa s true w9 (Kd.R_reads' FGgb.out).2.2 (Kd.R_reads' FGgb.out).2.1 (Kd.R_reads' FGsa.out).2.2 (Kd.R_reads' FGsa.out).2.1 A5.out).mono ?_; rintro e w10 ⟨rfl, hd⟩; have hb := hd.below; have Z10 := aM hb.size; have FGsa := aM (Kd.R_below FGsa.out hb); have FGgb := aM (Kd.R_below FGgb.out hb); have HB := aM (below_step HB.out hb); clear hb hd) | (clear T11; go_at_call 13; refine (laws_markIntS.calls k (fun k_ => w4.heap.size ≤ k_ ∧ k_ < w5.heap.size) (.slice VGgb g.length cGgb) g 1 hh gm w w10 HB.out FGgb.out A8.out).mono ?_; rintro e w11 ⟨rfl, hy, hb, hk⟩; have Z11 := aM hk.1; have FGsa := aM (Kd.R_kept FGsa.out hk (fun k_ h1_ h2_ => Nat.lt_irrefl k_ (Nat.lt_of_lt_of_le h1_.2 (Nat.le_trans Z4.out h2_.1)))); have FGgb := aM hy; have NGgb := aM (Kd.R_reads' hy).1; have HB := aM hb; clear hb hk hy) | (clear T12; go_at_call 14; refine ((by have c_ := laws_heldIntS.calls k VGgb cGgb gm 1 hh w11 (by have h_ := (Kd.R_reads' FGgb.out).2.2; exact h_) (by have h_ := (Kd.R_reads' FGgb.out); rw [← h_.1]; exact h_.2.1) A9.out; rw [← NGgb.out] at c_; exact c_ : Calls Try.prog 14 #[.slice VGgb g.length cGgb, .int .i64 1] w11 _)).mono ?_; rintro e w12 ⟨rfl, hd⟩; have hb := hd.below; have Z12 := aM hb.size; have FGsa := aM (Kd.R_below FGsa.out hb); have FGgb := aM (Kd.R_below FGgb.out hb); have HB := aM (below_step HB.out hb); clear hb hd) | (clear T13; go_at_call 8; refine (laws_toLockS.calls k A0 c0 l0 x w12 (Kd.C_below HR0.out HB.out) HC0.out A2.out).mono ?_; rintro e w13 ⟨v_, rfl, ho, hb⟩; have Z13 := aM hb.size; have FGsa := aM (Kd.R_below FGsa.out hb); have FGgb := aM (Kd.R_below FGgb.out hb); have Fe := aM (bornS ho HB.out.size); have HB := aM (below_step HB.out hb); obtain ⟨Ve, ce, rfl, _, _⟩ := Kd.S_reads Fe.out; clear hb ho) | (clear T14; go_at_call 9; refine (impl_ChainOf.calls k Ve ce x a1 g w13 (Kd.S_reads' Fe.out).2.2 (Kd.S_reads' Fe.out).2.1 A4.out).mono ?_; rintro e w14 ⟨v_, rfl, ho, hb⟩; have Z14 := aM hb.size; clear Fe; have FGsa := aM (Kd.R_below FGsa.out hb); have FGgb := aM (Kd.R_below FGgb.out hb); have FGh := aM (bornR ho HB.out.size); have HB := aM (below_step HB.out hb); obtain ⟨VGh, cGh, rfl, _, _⟩ := Kd.R_reads FGh.out; clear hb ho) | (clear T15; go_at_call 10; refine (laws_eqIntS.calls k VGh cGh g VGsa cGsa s true w14 (Kd.R_reads' FGh.out).2.2 (Kd.R_reads' FGh.out).2.1 (Kd.R_reads' FGsa.out).2.2 (Kd.R_reads' FGsa.out).2.1 A5.out).mono ?_; rintro e w15 ⟨rfl, hd⟩; have hb := hd.below; have Z15 := aM hb.size; have FGsa := aM (Kd.R_below FGsa.out hb); have FGgb := aM (Kd.R_below FGgb.out hb); have FGh := aM (Kd.R_below FGh.out hb); have HB := aM (below_step HB.out hb); clear hb hd) | (clear T16; go_at_call 14; refine ((by have c_ := laws_heldIntS.calls k VGgb cGgb gm 1 hh w15 (by have h_ := (Kd.R_reads' FGgb.out).2.2; exact h_) (by have h_ := (Kd.R_reads' FGgb.out); rw [← h_.1]; exact h_.2.1) A9.out; rw [← NGgb.out] at c_; exact c_ : Calls Try.prog 14 #[.slice VGgb g.length cGgb, .int .i64 1] w15 _)).mono ?_; rintro e w16 ⟨rfl, hd⟩; have hb := hd.below; have Z16 := aM hb.size; have FGsa := aM (Kd.R_below FGsa.out hb); have FGgb := aM (Kd.R_below FGgb.out hb); have FGh := aM (Kd.R_below FGh.out hb); have HB := aM (below_step HB.out hb); clear hb hd))
  all_goals go_ret
  all_goals exact ⟨rfl, HB.out⟩
/-- THE ONE PURE STATEMENT of laws_FnExactChainOf. -/
def laws_FnExactChainOf.Pure : Prop := ∀ (l0 : List (S41)) (a1 : Int), l0.length ≤ maxLen → (∀ x ∈ l0, ok41 x) → (Lit.int .i64 a1).wf = true → ∃ k, laws_FnExactChainOf.f k l0 a1 = some true
theorem laws_FnExactChainOf.walk (P : laws_FnExactChainOf.Pure) (A0 : Option Addr) (c0 : Nat) (l0 : List (S41)) (a1 : Int) (w : World) (hr0 : Kd.C k41 w A0 l0.length l0) (hc0 : l0.length ≤ c0) (hm0 : l0.length ≤ maxLen) (hg0 : ∀ x ∈ l0, ok41 x) (w1 : (Lit.int .i64 a1).wf = true) :
    Calls Try.prog 3 #[.slice A0 l0.length c0, .int .i64 a1] w fun e w' => e = .returned (.bool true) ∧ Below w.heap.size w w' := by
  obtain ⟨k, h⟩ := P l0 a1 hm0 hg0 w1
  refine (laws_FnExactChainOf.calls k A0 c0 l0 a1 true w hr0 hc0 rfl h).mono ?_
  rintro e w' ⟨rfl, hd⟩
  exact ⟨rfl, hd⟩

end Go.Proofs.Ythabcadkaocciaa.Print
