/- Go functions as plain Lean functions, and that the Go code answers just as these, wherever they answer. Conditions: those of each theorem. Written by a program of this session (wip/patch.py). -/
import Derived.Test.YtplecpkghbjbjaaPrint0
namespace Go.Proofs.Ytplecpkghbjbjaa.Print
open Go.RowKit Go.Proofs.Ytplecpkghbjbjaa.Base Go.Proofs.YtplecpkghbjbjaaW.PrintWords Go.Proofs.YtplecpkghbjbjaaW.PrintLast Go.Proofs.YtplecpkghbjbjaaW.PrintMore
attribute [local go_sem] max2_int min2_int max_two min_two max_three min_three max_four min_four   -- for this text's walks alone
set_option linter.unusedVariables false
set_option linter.unusedSimpArgs false

/-! ### impl_OwnsAny: function 13, by hand -/
-- MANUAL rounds=no making=yes
theorem idxLockO_rd (l : List S30) (i : Nat) (h : i < l.length) : rd_T30 l (i : Int) = l[i] := by
  unfold rd_T30
  rw [Int.toNat_natCast, List.getD_eq_getElem?_getD, List.getElem?_eq_getElem h, Option.getD_some]
theorem idxLockO_hit (p : S30 → Bool) (l : List S30) (x : Int) (h0 : 0 ≤ x) (h : x < (l.length : Int)) (hp : p (rd_T30 l x) = true) : idxF p (l.drop x.toNat) x = x := by
  have hk : x.toNat < l.length := by omega
  have e := idxLockO_rd l x.toNat hk
  rw [Int.toNat_of_nonneg h0] at e
  rw [List.drop_eq_getElem_cons hk, idxF, if_pos (by rw [← e]; exact hp)]
theorem idxLockO_miss (p : S30 → Bool) (l : List S30) (x : Int) (h0 : 0 ≤ x) (h : x < (l.length : Int)) (hp : p (rd_T30 l x) = false) : idxF p (l.drop x.toNat) x = idxF p (l.drop (x + 1).toNat) (x + 1) := by
  have hk : x.toNat < l.length := by omega
  have e := idxLockO_rd l x.toNat hk
  rw [Int.toNat_of_nonneg h0] at e
  rw [List.drop_eq_getElem_cons hk, idxF, if_neg (by rw [← e, hp]; decide), show (x + 1).toNat = x.toNat + 1 by omega]
theorem idxLockO_end (p : S30 → Bool) (l : List S30) (x : Int) (h0 : 0 ≤ x) (h : ¬ x < (l.length : Int)) : idxF p (l.drop x.toNat) x = -1 := by
  rw [List.drop_eq_nil_of_le (by omega), idxF]
set_option maxHeartbeats 2000000 in
theorem idxLockO (p : S30 → Bool) (B : Nat) (A0 : Option Addr) (c0 : Nat) (l0 : List S30) (w : World) (hr0 : Kd.C k30 w A0 l0.length l0) (hm : l0.length ≤ 9223372036854775807)
    (hp : ∀ (W : World) (x : S30) (A1_ : Option Addr) (c1_ : Nat), Below w.heap.size w W → x.f1.length ≤ c1_ → (Kd.int .i64).C W A1_ x.f1.length x.f1 → Calls Try.prog 52 #[.agg #[.int .i64 x.f0, .slice A1_ x.f1.length c1_], .pointer (some ⟨B, 0, none⟩)] W fun e w' => e = .returned (.bool (p x)) ∧ Below w.heap.size w w') :
    Calls Try.prog 53 #[.slice A0 l0.length c0, .func (.func 52) #[] #[.pointer (some ⟨B, 0, none⟩)]] w fun e w' => e = .returned (.int .i64 (idxF p l0 0)) ∧ Below w.heap.size w w' := by
  have eg : ∀ args w, (callFunc 52 args).run Try.prog w = .ok (.enter 52 args) w := Go.Proofs.enters_of Try.func52 (by kernel_rfl) rfl
  have HR0 := Aside0.mk hr0
  clear hr0
  have H0 : Aside0 (idxF p l0 0 = idxF p (l0.drop 0) ((0 : Nat) : Int)) := ⟨rfl⟩
  generalize hres : idxF p l0 0 = res at H0 ⊢
  clear hres
  go_enter Try.func53, Try.ntmps53
  go_wp2
  go_loopg [5, 8] l0.length (fun gg _ s8 wq => ∃ x : Int, s8 = .int .i64 x ∧ Aside0 (0 ≤ x ∧ x ≤ (l0.length : Int) ∧ l0.length - x.toNat ≤ gg) ∧ Aside0 (Below w.heap.size w wq) ∧ Aside0 (res = idxF p (l0.drop x.toNat) x))
  case atStart => exact ⟨0, rfl, ⟨by omega⟩, ⟨Below.refl _ w⟩, H0⟩
  case round =>
    clear H0
    obtain ⟨x, rfl, HX, BW, A⟩ := hrel
    by_cases hlt : x < (l0.length : Int)
    · have hx0 := HX.out.1
      have hk : x.toNat < l0.length := by omega
      have h64 : x + 1 ≤ 9223372036854775807 := by omega
      have d1 : decide (x < (l0.length : Int)) = true := decide_eq_true hlt
      have d2 : decide (0 ≤ x) = true := decide_eq_true hx0
      obtain ⟨ad, A1_, c1_, e0, hc0, hc1, hl1, hr1⟩ := at_T30 (Kd.C_below HR0.out BW.out) x hx0 hlt
      cases e0
      have hcall := hp wr (rd_T30 l0 x) A1_ c1_ BW.out hl1 hr1
      have L := Aside0.mk hlt
      have p1 : (0 ≤ x) = True := eq_true hx0
      have q1 : (x < (l0.length : Int)) = True := eq_true hlt
      clear hp hlt hk hx0 hl1 hr1
      generalize hy : rd_T30 l0 x = y at *
      have R := Aside0.mk hy
      clear hy
      cases hq : p y with
      | true =>
        rw [hq] at hcall
        have Q := Aside0.mk hq
        clear hq
        go_wp2_with (go_at_fn 52; refine hcall.mono ?_; rintro e w' ⟨rfl, hb'⟩)
        go_ret
        refine ⟨?_, hb'⟩
        have e := A.out.trans (idxLockO_hit p l0 x HX.out.1 L.out (by rw [R.out]; exact Q.out))
        rw [e]
        rfl
      | false =>
        rw [hq] at hcall
        have Q := Aside0.mk hq
        clear hq
        go_wp2_with (go_at_fn 52; refine hcall.mono ?_; rintro e w' ⟨rfl, hb'⟩)
        go_roundg (l0.length - (x.toNat + 1))
        case measure => have := L.out; have := HX.out; omega
        case rel =>
          have hx := HX.out
          have hl := L.out
          exact ⟨x + 1, by rw [Go.Proofs.Ytplecpkghbjbjaa.Base.wr (x + 1) (by omega) (by omega)], ⟨by omega⟩, ⟨hb'⟩, ⟨A.out.trans (idxLockO_miss p l0 x hx.1 hl (by rw [R.out]; exact Q.out))⟩⟩
    have d1 : decide (x < (l0.length : Int)) = false := decide_eq_false hlt
    have L := Aside0.mk hlt
    clear hlt
    go_wp2
    go_ret
    refine ⟨?_, BW.out⟩
    have e := A.out.trans (idxLockO_end p l0 x HX.out.1 (by have := L.out; omega))
    rw [e]
    rfl
theorem anyLockO (p : S30 → Bool) (B : Nat) (A0 : Option Addr) (c0 : Nat) (l0 : List S30) (w : World) (hr0 : Kd.C k30 w A0 l0.length l0) (hm : l0.length ≤ 9223372036854775807)
    (hp : ∀ (W : World) (x : S30) (A1_ : Option Addr) (c1_ : Nat), Below w.heap.size w W → x.f1.length ≤ c1_ → (Kd.int .i64).C W A1_ x.f1.length x.f1 → Calls Try.prog 52 #[.agg #[.int .i64 x.f0, .slice A1_ x.f1.length c1_], .pointer (some ⟨B, 0, none⟩)] W fun e w' => e = .returned (.bool (p x)) ∧ Below w.heap.size w w') :
    Calls Try.prog 51 #[.slice A0 l0.length c0, .func (.func 52) #[] #[.pointer (some ⟨B, 0, none⟩)]] w fun e w' => e = .returned (.bool (decide (0 ≤ idxF p l0 0))) ∧ Below w.heap.size w w' := by
  have hcon := idxLockO p B A0 c0 l0 w hr0 hm hp
  clear hr0 hp
  generalize idxF p l0 0 = res at hcon ⊢
  go_enter Try.func51, Try.ntmps51
  go_wp2_with (go_at_call 53; refine hcon.mono ?_; rintro e w' ⟨rfl, hb'⟩)
  go_ret
  exact ⟨by first | rfl | (simp; done), hb'⟩
theorem ownsAny_clo (no : Int) (B : Nat) (w : World) (hB : B < w.heap.size) (hc : w.cell? ⟨B, 0, none⟩ = some (.int .i64 no)) (W : World) (x : S30) (A1_ : Option Addr) (c1_ : Nat) (hb : Below w.heap.size w W) :
    Calls Try.prog 52 #[.agg #[.int .i64 x.f0, .slice A1_ x.f1.length c1_], .pointer (some ⟨B, 0, none⟩)] W fun e w' => e = .returned (.bool (x.f0 == no)) ∧ Below w.heap.size w w' := by
  have hc2 : W.cell? ⟨B, 0, none⟩ = some (.int .i64 no) := (hb.cell (p := ⟨B, 0, none⟩) hB).trans hc
  have hBW : B < W.heap.size := Nat.lt_of_lt_of_le hB hb.size
  have hne : B ≠ W.heap.size := by omega
  have HB := Aside0.mk hb
  clear hb hc
  go_enter Try.func52, Try.ntmps52
  go_wp2
  all_goals (go_ret; exact ⟨by simp_all, HB.out.alloc HB.out.size _⟩)
def impl_OwnsAny.f (l0 : List (S30)) (a1 : Int) : Option (Bool) := some (a1 != 0 && decide (0 ≤ idxF (fun t => t.f0 == a1) l0 0))
theorem impl_OwnsAny.calls (A0 : Option Addr) (c0 : Nat) (l0 : List (S30)) (a1 : Int) (r : Bool) (w : World) (hr0 : Kd.C k30 w A0 l0.length l0) (hc0 : l0.length ≤ c0) (h : impl_OwnsAny.f l0 a1 = some r) :
    Calls Try.prog 13 #[.slice A0 l0.length c0, .int .i64 a1] w fun e w' => e = .returned (.bool r) ∧ Below w.heap.size w w' := by
  obtain rfl := Option.some.inj h
  clear h
  have hcon := anyLockO (fun t => t.f0 == a1) w.heap.size A0 c0 l0 (w.alloc (.cells #[.int .i64 a1] 3)) (Kd.C_below hr0 (below_alloc (Below.refl _ _) _)) hr0.2.1 (fun W x A1_ c1_ hb _ _ => ownsAny_clo a1 w.heap.size _ (by simp) (by simp) W x A1_ c1_ hb)
  clear hr0
  generalize idxF (fun t : S30 => t.f0 == a1) l0 0 = res at hcon ⊢
  by_cases h0 : a1 = 0
  · have h1 : (a1 != 0) = false := bne_eq_false_iff_eq.mpr h0
    have h2 : (a1 == 0) = true := beq_iff_eq.mpr h0
    rw [h1]
    clear h0
    go_enter Try.func13, Try.ntmps13
    go_wp2
    go_ret
    exact ⟨rfl, (Below.refl _ w).alloc (Nat.le_refl _) _⟩
  have h1 : (a1 != 0) = true := bne_iff_ne.mpr h0
  have h2 : (a1 == 0) = false := beq_eq_false_iff_ne.mpr h0
  rw [h1, Bool.true_and]
  clear h0
  go_enter Try.func13, Try.ntmps13
  go_wp2_with (go_at_call 51; refine hcon.mono ?_; rintro e w' ⟨rfl, hb'⟩)
  go_ret
  exact ⟨by first | rfl | (simp; done), ((Below.refl _ w).alloc (Nat.le_refl _) _).trans (hb'.mono (by simp))⟩

end Go.Proofs.Ytplecpkghbjbjaa.Print
