/- The pure statement of FnExactSumOf: at all arguments the program's SumOf and the reference's agree, as plain functions over numbers and lists. Conditions: those of the statement (numbers of 64 bits, lists that lie in memory). -/
import Derived.Test.YtnokdjkkgcpbdacPrintLawsFnExactSumOf
set_option linter.unusedVariables false
set_option linter.unusedSimpArgs false
namespace Go.Proofs.Ytnokdjkkgcpbdac.Pure
open Go.RowKit Go.Proofs.Ytnokdjkkgcpbdac.Print Go.Proofs.YtnokdjkkgcpbdacW.PrintWords Go.Proofs.YtnokdjkkgcpbdacW.PrintLast Go.Proofs.YtnokdjkkgcpbdacW.PrintMore Go.Proofs.Ytnokdjkkgcpbdac.Base

theorem eqShares_loop (l : List S50) (hl : l.length ≤ 1048576000) : ∀ (k i : Nat), l.length - i < k → laws_eqShareS.l0 k l l (i : Int) = some true := by
  intro k
  induction k with
  | zero => intro i h; omega
  | succ k ih =>
    intro i h
    simp only [laws_eqShareS.l0]
    by_cases hi : i < l.length
    · rw [if_pos (by omega), if_pos (by omega), if_pos (by omega), show ∀ a b : Int, laws_eqShare.f a b a b = some true from fun a b => by unfold laws_eqShare.f; simp, Option.bind_some, if_pos rfl, wr _ (by omega) (by omega)]
      exact ih (i + 1) (by omega)
    · rw [if_neg (by omega)]
theorem eqShares_ev (l : List S50) (hl : l.length ≤ 1048576000) : Ev (fun k => laws_eqShareS.f k l l) true := by
  refine Ev.of (fun k => laws_eqShareS.mono l l k) (k := l.length + 1) ?_
  unfold laws_eqShareS.f
  rw [if_pos rfl]
  exact eqShares_loop l hl (l.length + 1) 0 (by omega)
def SumInv (i : Nat) (n d : Int) : Prop := 1 ≤ d ∧ d ≤ (40 : Int) ^ i ∧ 0 ≤ n ∧ n ≤ (i : Int) * d
theorem gcd_step (x0 x1 : Int) (h : x1 ≠ 0) : Int.gcd x1 (Int.tmod x0 x1) = Int.gcd x0 x1 := by
  unfold Int.gcd
  rw [Int.natAbs_tmod, Nat.gcd_comm x0.natAbs, Nat.gcd_comm x1.natAbs (x0.natAbs % x1.natAbs), ← Nat.gcd_rec]
theorem impl_gcd_l0 (n : Nat) : ∀ (k : Nat) (x0 x1 : Int), x1.natAbs < n → n ≤ k → x0.natAbs ≤ 9223372036854775807 → x1.natAbs ≤ 9223372036854775807 → impl_gcd.l0 k x0 x1 = some ((Int.gcd x0 x1 : Nat) : Int) := by
  induction n with
  | zero => intro k x0 x1 h; omega
  | succ n ih =>
    intro k x0 x1 h hk h0 h1
    obtain ⟨k, rfl⟩ : ∃ m, k = m + 1 := ⟨k - 1, by omega⟩
    simp only [impl_gcd.l0]
    by_cases e : x1 = 0
    · subst e
      rw [if_pos rfl, Int.gcd_zero_right]
      congr 1
      unfold mx wrap64
      split <;> omega
    · rw [if_neg e]
      have hm : (Int.tmod x0 x1).natAbs < x1.natAbs := by rw [Int.natAbs_tmod]; exact Nat.mod_lt _ (by omega)
      rw [ih k x1 _ (by omega) (by omega) h1 (by omega), gcd_step _ _ e]
theorem igcd_ev (a b : Int) (ha : a.natAbs ≤ 9223372036854775807) (hb : b.natAbs ≤ 9223372036854775807) : Ev (fun k => impl_gcd.f k a b) ((Int.gcd a b : Nat) : Int) := by
  refine Ev.of (fun k => impl_gcd.mono a b k) (k := b.natAbs + 1) ?_
  unfold impl_gcd.f
  exact impl_gcd_l0 (b.natAbs + 1) _ a b (by omega) (Nat.le_refl _) ha hb
theorem rdH (l : List S50) (i : Nat) (h : i < l.length) : rd_T50 l (i : Int) = l[i] := by
  unfold rd_T50
  rw [Int.toNat_natCast, List.getD_eq_getElem?_getD, List.getElem?_eq_getElem h, Option.getD_some]
def stepD (n d q p : Int) : Int := Int.tdiv (d * p) (Int.gcd (n * p + q * d) (d * p))
/-! Fractions: one more share, shortened. -/
def stepN (n d q p : Int) : Int := Int.tdiv (n * p + q * d) (Int.gcd (n * p + q * d) (d * p))
theorem mul_cancel_le {a b g : Int} (hg : 1 ≤ g) (h : a * g ≤ b * g) : a ≤ b := by
  by_cases c : a ≤ b
  · exact c
  · exfalso
    have h1 : b + 1 ≤ a := by omega
    have h2 := Int.mul_le_mul_of_nonneg_right h1 (show 0 ≤ g by omega)
    rw [Int.add_mul, Int.one_mul] at h2
    omega
theorem pow40 (i : Nat) (h : i ≤ 7) : (1 : Int) ≤ (40 : Int) ^ i ∧ (40 : Int) ^ i ≤ 163840000000 := by
  match i, h with
  | 0, _ => decide
  | 1, _ => decide
  | 2, _ => decide
  | 3, _ => decide
  | 4, _ => decide
  | 5, _ => decide
  | 6, _ => decide
  | 7, _ => decide
/-- What one step comes to, and that nothing wraps. -/
theorem step_all (i : Nat) (hi : i < 7) (n d q p : Int) (h : SumInv i n d) (hs : ShareP q p) :
    wrap64 (wrap64 (n * p) + wrap64 (q * d)) = n * p + q * d ∧ wrap64 (d * p) = d * p ∧ 1 ≤ d * p ∧ 0 ≤ n * p + q * d ∧ d * p ≤ 163840000000 ∧ n * p + q * d ≤ 7 * 163840000000 ∧
    (1 : Int) ≤ (Int.gcd (n * p + q * d) (d * p) : Nat) ∧ stepN n d q p * (Int.gcd (n * p + q * d) (d * p) : Nat) = n * p + q * d ∧ stepD n d q p * (Int.gcd (n * p + q * d) (d * p) : Nat) = d * p ∧
    wrap64 (stepN n d q p) = stepN n d q p ∧ wrap64 (stepD n d q p) = stepD n d q p ∧ SumInv (i + 1) (stepN n d q p) (stepD n d q p) := by
  obtain ⟨h1, h2, h3, h4⟩ := h
  obtain ⟨⟨p1, p2⟩, q1, q2⟩ := hs
  have hb := pow40 i (by omega)
  have hb' := pow40 (i + 1) (by omega)
  have hpow : (40 : Int) ^ (i + 1) = (40 : Int) ^ i * 40 := Int.pow_succ ..
  have a1 : d * p ≤ (40 : Int) ^ i * 40 := by
    have x := Int.mul_le_mul_of_nonneg_left p2 (show 0 ≤ d by omega)
    have y := Int.mul_le_mul_of_nonneg_right h2 (show (0 : Int) ≤ 40 by omega)
    omega
  have a2 : 1 ≤ d * p := by
    have x := Int.mul_le_mul_of_nonneg_left p1 (show 0 ≤ d by omega)
    omega
  have a3 : 0 ≤ n * p := Int.mul_nonneg h3 (by omega)
  have a4 : n * p ≤ (i : Int) * (d * p) := by
    have x := Int.mul_le_mul_of_nonneg_right h4 (show 0 ≤ p by omega)
    rwa [Int.mul_assoc] at x
  have a5 : 0 ≤ q * d := Int.mul_nonneg (by omega) (by omega)
  have a6 : q * d ≤ d * p := by
    have x := Int.mul_le_mul_of_nonneg_right q2 (show 0 ≤ d by omega)
    rwa [Int.mul_comm p d] at x
  have a7 : (i : Int) * (d * p) + d * p = ((i + 1 : Nat) : Int) * (d * p) := by
    rw [show ((i + 1 : Nat) : Int) = (i : Int) + 1 by omega, Int.add_mul, Int.one_mul]
  have a8 : (i : Int) * (d * p) ≤ 6 * (d * p) := Int.mul_le_mul_of_nonneg_right (by omega) (by omega)
  unfold stepN stepD
  generalize hN : n * p + q * d = N
  generalize hD : d * p = D at *
  have b1 : 0 ≤ N := by omega
  have b2 : N ≤ ((i + 1 : Nat) : Int) * D := by omega
  have gN : ((Int.gcd N D : Nat) : Int) ∣ N := Int.gcd_dvd_left ..
  have gD : ((Int.gcd N D : Nat) : Int) ∣ D := Int.gcd_dvd_right ..
  have g0 : Int.gcd N D ≠ 0 := by
    intro e
    obtain ⟨_, e⟩ := Int.gcd_eq_zero_iff.1 e
    omega
  have eN := Int.tdiv_mul_cancel gN
  have eD := Int.tdiv_mul_cancel gD
  have hG : (1 : Int) ≤ ((Int.gcd N D : Nat) : Int) := by omega
  generalize ((Int.gcd N D : Nat) : Int) = G at *
  generalize Int.tdiv N G = N' at *
  generalize Int.tdiv D G = D' at *
  have c1 : 1 ≤ D' := by
    by_cases c : D' ≤ 0
    · exfalso
      have x := Int.mul_le_mul_of_nonneg_right c (show 0 ≤ G by omega)
      omega
    · omega
  have c2 : D' ≤ D := by
    have x := Int.mul_le_mul_of_nonneg_left hG (show 0 ≤ D' by omega)
    omega
  have c3 : 0 ≤ N' := by
    by_cases c : N' ≤ -1
    · exfalso
      have x := Int.mul_le_mul_of_nonneg_right c (show 0 ≤ G by omega)
      omega
    · omega
  have c4 : N' ≤ N := by
    have x := Int.mul_le_mul_of_nonneg_left hG c3
    omega
  have c5 : N' ≤ ((i + 1 : Nat) : Int) * D' := mul_cancel_le hG (by rw [eN, Int.mul_assoc, eD]; exact b2)
  have w1 : wrap64 (n * p) = n * p := wr _ (by omega) (by omega)
  have w2 : wrap64 (q * d) = q * d := wr _ (by omega) (by omega)
  refine ⟨by rw [w1, w2, hN]; exact wr _ (by omega) (by omega), wr _ (by omega) (by omega), a2, b1, by omega, by omega, hG, eN, eD, wr _ (by omega) (by omega), wr _ (by omega) (by omega), c1, ?_, c3, c5⟩
  omega
/-- The sum of a list's shares, from n by d on; the first that is not right ends it. -/
def sumFrom : List S50 → Int → Int → Int × Int × Bool
  | [], n, d => (n, d, true)
  | s :: r, n, d => if ShareP s.f0 s.f1 then sumFrom r (stepN n d s.f0 s.f1) (stepD n d s.f0 s.f1) else (0, 0, false)
theorem iSum_loop (l : List S50) (hl : l.length ≤ 7) (ha : ∀ (i : Nat) (h : i < l.length), ShareP (l[i]).f0 (l[i]).f1) : ∀ (m i : Nat) (n d : Int), l.length - i = m → i ≤ l.length → SumInv i n d → Ev (fun k => impl_SumOf.l0 k n d l (l.length : Int) (i : Int)) (sumFrom (l.drop i) n d) := by
  intro m
  induction m with
  | zero =>
    intro i n d hm hi h
    refine Ev.step (fun k => by simp only [impl_SumOf.l0]; rfl) ?_
    rw [List.drop_eq_nil_of_le (by omega), sumFrom]
    exact evNeg (by omega) (Ev.now _)
  | succ m ih =>
    intro i n d hm hi h
    have hlt : i < l.length := by omega
    refine Ev.step (fun k => by simp only [impl_SumOf.l0]; rfl) ?_
    refine evPos (by omega) (evPos (by omega) (evPos (by omega) ?_))
    rw [rdH l i hlt, List.drop_eq_getElem_cons hlt, sumFrom]
    have hs := ha i hlt
    rw [if_pos hs]
    obtain ⟨e1, e2, e3, e4, e5, e6, e7, e8, e9, e10, e11, e12⟩ := step_all i (by omega) n d _ _ h hs
    rw [e1, e2]
    refine Ev.bind (igcd_ev _ _ (by omega) (by omega)) ?_
    refine evNeg (by omega) ?_
    have r1 : wrap64 (Int.tdiv (n * (l[i]).f1 + (l[i]).f0 * d) (Int.gcd (n * (l[i]).f1 + (l[i]).f0 * d) (d * (l[i]).f1))) = stepN n d (l[i]).f0 (l[i]).f1 := e10
    have r2 : wrap64 (Int.tdiv (d * (l[i]).f1) (Int.gcd (n * (l[i]).f1 + (l[i]).f0 * d) (d * (l[i]).f1))) = stepD n d (l[i]).f0 (l[i]).f1 := e11
    rw [r1, r2, wr ((i : Int) + 1) (by omega) (by omega)]
    exact ih (i + 1) _ _ (by omega) (by omega) e12
theorem idxF_neg {α : Type} (p : α → Bool) : ∀ (l : List α) (i : Int), 0 ≤ i → (idxF p l i < 0 ↔ ∀ x ∈ l, p x = false)
  | [], i, _ => by simp [idxF]
  | x :: r, i, h => by
    have ih := idxF_neg p r (i + 1) (by omega)
    unfold idxF
    by_cases c : p x = true
    · rw [if_pos c]
      constructor
      · intro z; omega
      · intro z
        have := z x List.mem_cons_self
        rw [c] at this
        cases this
    · rw [if_neg c, ih]
      have c : p x = false := by simpa using c
      simp [c]
theorem sum_bad : ∀ (l : List S50) (n d : Int), (∃ x ∈ l, ¬ ShareP x.f0 x.f1) → sumFrom l n d = (0, 0, false)
  | [], n, d, h => by obtain ⟨x, hx, _⟩ := h; exact absurd hx List.not_mem_nil
  | s :: r, n, d, h => by
    unfold sumFrom
    by_cases c : ShareP s.f0 s.f1
    · rw [if_pos c]
      refine sum_bad r _ _ ?_
      obtain ⟨x, hx, hb⟩ := h
      rcases List.mem_cons.1 hx with rfl | hx
      · exact absurd c hb
      · exact ⟨x, hx, hb⟩
    · rw [if_neg c]
theorem iSum_ev (l : List S50) : Ev (fun k => impl_SumOf.f k l) (if (l.length : Int) > 7 then (0, 0, false) else sumFrom l 0 1) := by
  unfold impl_SumOf.f
  by_cases h : (l.length : Int) > 7
  · rw [if_pos h]
    refine evPos h ?_
    refine Ev.step (fun k => by simp only [impl_SumOf.j0]; rfl) ?_
    exact evPos trivial (Ev.now _)
  · rw [if_neg h]
    refine evNeg h ?_
    simp only [impl_Share_102.f, Option.bind_some]
    have hi := idxF_neg badShare l 0 (by omega)
    by_cases c : idxF badShare l 0 < 0
    · rw [show decide (0 ≤ idxF badShare l 0) = false from decide_eq_false (by omega)]
      refine Ev.step (fun k => by simp only [impl_SumOf.j0]; rfl) ?_
      refine evNeg (by decide) ?_
      refine iSum_loop l (by omega) (fun i hl => ?_) l.length 0 0 1 (by omega) (by omega) ⟨by omega, by decide, by omega, by omega⟩
      have := hi.1 c l[i] (List.getElem_mem hl)
      unfold badShare at this
      simpa using this
    · rw [show decide (0 ≤ idxF badShare l 0) = true from decide_eq_true (by omega)]
      refine Ev.step (fun k => by simp only [impl_SumOf.j0]; rfl) ?_
      refine evPos trivial ?_
      rw [sum_bad l 0 1]
      · exact Ev.now _
      · apply Classical.byContradiction
        intro hn
        refine c (hi.2 fun x hx => ?_)
        unfold badShare
        have : ShareP x.f0 x.f1 := Classical.byContradiction fun z => hn ⟨x, hx, z⟩
        simp [this]
theorem spec_gcd_l0 (n : Nat) : ∀ (k : Nat) (x0 x1 : Int), x1.natAbs < n → n ≤ k → 0 ≤ x0 → 0 ≤ x1 → spec_l1Gcd.l0 k x0 x1 = some ((Int.gcd x0 x1 : Nat) : Int) := by
  induction n with
  | zero => intro k x0 x1 h; omega
  | succ n ih =>
    intro k x0 x1 h hk h0 h1
    obtain ⟨k, rfl⟩ : ∃ m, k = m + 1 := ⟨k - 1, by omega⟩
    simp only [spec_l1Gcd.l0]
    by_cases e : x1 = 0
    · subst e
      rw [if_neg (by omega), Int.gcd_zero_right]
      congr 1
      omega
    · rw [if_pos (by omega), if_neg e]
      have hm : (Int.tmod x0 x1).natAbs < x1.natAbs := by rw [Int.natAbs_tmod]; exact Nat.mod_lt _ (by omega)
      have hn : 0 ≤ Int.tmod x0 x1 := Int.tmod_nonneg _ h0
      rw [ih k x1 _ (by omega) (by omega) h1 hn, gcd_step _ _ e]
theorem sgcd_ev (a b : Int) (ha : 0 ≤ a) (hb : 0 ≤ b) : Ev (fun k => spec_l1Gcd.f k a b) ((Int.gcd a b : Nat) : Int) := by
  refine Ev.of (fun k => spec_l1Gcd.mono a b k) (k := b.natAbs + 1) ?_
  unfold spec_l1Gcd.f
  exact spec_gcd_l0 (b.natAbs + 1) _ a b (by omega) (Nat.le_refl _) ha hb
theorem sin_eq (a b c : Int) : spec_l1In.f a b c = some (decide (b ≤ a ∧ a ≤ c)) := by
  unfold spec_l1In.f
  by_cases h : a ≥ b
  · rw [if_pos h]; simp [show b ≤ a from h]
  · rw [if_neg h]; simp; omega
theorem sshare_eq (q p : Int) : spec_ShareOk.f q p = some (decide (ShareP q p)) := by
  unfold spec_ShareOk.f ShareP
  simp only [sin_eq, Option.bind_some, decide_eq_true_eq]
  by_cases h : 1 ≤ p ∧ p ≤ 40
  · simp only [h, and_self, if_true, true_and]
  · simp only [h, if_false, false_and, decide_false]
theorem sSum_loop (l : List S50) (hl : l.length ≤ 7) : ∀ (m i : Nat) (n d : Int), l.length - i = m → i ≤ l.length → SumInv i n d → Ev (fun k => spec_SumOf.l0 k l n d (i : Int)) (sumFrom (l.drop i) n d) := by
  intro m
  induction m with
  | zero =>
    intro i n d hm hi h
    refine Ev.step (fun k => by simp only [spec_SumOf.l0]; rfl) ?_
    rw [List.drop_eq_nil_of_le (by omega), sumFrom]
    exact evNeg (by omega) (Ev.now _)
  | succ m ih =>
    intro i n d hm hi h
    have hlt : i < l.length := by omega
    refine Ev.step (fun k => by simp only [spec_SumOf.l0]; rfl) ?_
    refine evPos (by omega) (evPos (by omega) ?_)
    rw [rdH l i hlt, sshare_eq, List.drop_eq_getElem_cons hlt, sumFrom]
    simp only [Option.bind_some, decide_eq_true_eq]
    by_cases hs : ShareP (l[i]).f0 (l[i]).f1
    · rw [if_pos hs]
      refine evPos hs ?_
      obtain ⟨e1, e2, e3, e4, e5, e6, e7, e8, e9, e10, e11, e12⟩ := step_all i (by omega) n d _ _ h hs
      rw [e1, e2]
      refine Ev.bind (sgcd_ev _ _ e4 (by omega)) ?_
      refine evNeg (by omega) ?_
      have r1 : wrap64 (Int.tdiv (n * (l[i]).f1 + (l[i]).f0 * d) (Int.gcd (n * (l[i]).f1 + (l[i]).f0 * d) (d * (l[i]).f1))) = stepN n d (l[i]).f0 (l[i]).f1 := e10
      have r2 : wrap64 (Int.tdiv (d * (l[i]).f1) (Int.gcd (n * (l[i]).f1 + (l[i]).f0 * d) (d * (l[i]).f1))) = stepD n d (l[i]).f0 (l[i]).f1 := e11
      rw [r1, r2, wr ((i : Int) + 1) (by omega) (by omega)]
      exact ih (i + 1) _ _ (by omega) (by omega) e12
    · rw [if_neg hs]
      exact evNeg hs (Ev.now _)
theorem sSum_ev (l : List S50) : Ev (fun k => spec_SumOf.f k l) (if (l.length : Int) > 7 then (0, 0, false) else sumFrom l 0 1) := by
  unfold spec_SumOf.f
  by_cases h : (l.length : Int) > 7
  · rw [if_pos h]
    exact evPos h (Ev.now _)
  · rw [if_neg h]
    exact evNeg h (sSum_loop l (by omega) l.length 0 0 1 (by omega) (by omega) ⟨by omega, by decide, by omega, by omega⟩)
theorem szShares (l : List S88) (hm : l.length ≤ maxLen) : (l.length ≤ 1048576 ∧ laws_szShareS.f l 1048576 = some (1048576 - (l.length : Int))) ∨ laws_szShareS.f l 1048576 = some (-1) := by
  unfold laws_szShareS.f
  unfold maxLen at hm
  rw [wr _ (by omega) (by omega)]
  by_cases h : 1048576 - (l.length : Int) < 0
  · exact .inr (if_pos h)
  · exact .inl ⟨by omega, if_neg h⟩
def toH (x : S88) : S50 := ⟨x.f0, x.f1⟩
theorem full {α : Type} (l : List α) (d : α) (i : Nat) (h : l.length ≤ i) : l.take i ++ List.replicate (l.length - i) d = l := by
  rw [List.take_of_length_le h, show l.length - i = 0 by omega, List.replicate_zero, List.append_nil]
theorem set_step {α : Type} (l : List α) (d : α) (i : Nat) (h : i < l.length) : (l.take i ++ List.replicate (l.length - i) d).set i l[i] = l.take (i + 1) ++ List.replicate (l.length - (i + 1)) d := by
  have hl : (l.take i).length = i := by rw [List.length_take]; omega
  rw [List.set_append_right _ _ (by omega), hl, Nat.sub_self, show l.length - i = (l.length - (i + 1)) + 1 by omega, List.replicate_succ, List.set_cons_zero, List.take_succ_eq_append_getElem h, List.append_assoc]
  rfl
theorem map_step {α β : Type} (f : α → β) (l : List α) (d : β) (i : Nat) (h : i < l.length) : ((l.map f).take i ++ List.replicate (l.length - i) d).set i (f l[i]) = (l.map f).take (i + 1) ++ List.replicate (l.length - (i + 1)) d := by
  have := set_step (l.map f) d i (by simpa using h)
  simpa using this
theorem rdLH (l : List S88) (i : Nat) (h : i < l.length) : rd_T88 l (i : Int) = l[i] := by
  unfold rd_T88
  rw [Int.toNat_natCast, List.getD_eq_getElem?_getD, List.getElem?_eq_getElem h, Option.getD_some]
theorem toShares_loop (l : List S88) (hl : l.length ≤ 1048576) : ∀ (k i : Nat), l.length - i < k → laws_toShareS.l0 k l ((l.map toH).take i ++ List.replicate (l.length - i) z50) (i : Int) = some (l.map toH) := by
  intro k
  induction k with
  | zero => intro i h; omega
  | succ k ih =>
    intro i h
    simp only [laws_toShareS.l0, laws_toShare.f, Option.bind_some]
    by_cases hi : i < l.length
    · rw [if_pos (by omega), if_pos (by omega), if_pos (by rw [List.length_append, List.length_take, List.length_replicate, List.length_map]; omega), rdLH l i hi, Int.toNat_natCast, wr _ (by omega) (by omega)]
      have e := map_step toH l z50 i hi
      unfold toH at e ⊢
      rw [e]
      exact ih (i + 1) (by omega)
    · rw [if_neg (by omega)]
      have e := full (l.map toH) z50 i (by rw [List.length_map]; omega)
      rw [List.length_map] at e
      rw [e]
theorem toShares_ev (l : List S88) (hl : l.length ≤ 1048576) : Ev (fun k => laws_toShareS.f k l) (l.map toH) := by
  refine Ev.of (fun k => laws_toShareS.mono l k) (k := l.length + 1) ?_
  unfold laws_toShareS.f
  rw [if_pos (by omega), if_pos (by simp only [Int.toNat_natCast]; omega), Int.toNat_natCast]
  have := toShares_loop l hl (l.length + 1) 0 (by omega)
  simpa using this
theorem FnExactSumOf : laws_FnExactSumOf.Pure := by
  intro l hm _
  refine Ev.rounds (r := true) ?_
  unfold laws_FnExactSumOf.f
  rcases szShares l hm with ⟨hl, e⟩ | e
  · rw [e]
    simp only [Option.bind_some]
    refine evNeg (by omega) ?_
    have ht := toShares_ev l hl
    have hl2 : (l.map toH).length ≤ 1048576000 := by rw [List.length_map]; omega
    refine Ev.bind ht (Ev.bind (sSum_ev _) (Ev.bind ht (Ev.bind (iSum_ev _) ?_)))
    refine evPos rfl (evPos rfl ?_)
    simp only [bne_self_eq_false]
    refine Ev.step (fun k => by simp only [laws_FnExactSumOf.j0]; rfl) ?_
    refine evNeg (by decide) (Ev.bind ht (Ev.bind (eqShares_ev _ hl2) ?_))
    simp only [if_true]
    exact Ev.now _
  · rw [e]
    simp only [Option.bind_some]
    exact evPos (by omega) (Ev.now _)

end Go.Proofs.Ytnokdjkkgcpbdac.Pure
