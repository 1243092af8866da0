/- The pure statement of FnExactOwnsAny: at all arguments the program's OwnsAny and the reference's agree, as plain functions over numbers and lists. Conditions: those of the statement (numbers of 64 bits, lists that lie in memory). -/
import Derived.Test.YtejbmknoolkmhaaPrintLawsFnExactOwnsAny
set_option linter.unusedVariables false
set_option linter.unusedSimpArgs false
namespace Go.Proofs.Ytejbmknoolkmhaa.Pure
open Go.RowKit Go.Proofs.Ytejbmknoolkmhaa.Print Go.Proofs.YtejbmknoolkmhaaW.PrintWords Go.Proofs.YtejbmknoolkmhaaW.PrintLast Go.Proofs.YtejbmknoolkmhaaW.PrintMore Go.Proofs.Ytejbmknoolkmhaa.Base

theorem eqInts_loop (l : List Int) (hl : l.length ≤ maxLen) (d : Nat) : ∀ (k i : Nat), l.length - i ≤ d → d < k → laws_eqIntS.l0 k l l (i : Int) = some true := by
  unfold maxLen at hl
  induction d with
  | zero =>
    intro k i hd hk
    obtain ⟨k, rfl⟩ : ∃ m, k = m + 1 := ⟨k - 1, by omega⟩
    simp only [laws_eqIntS.l0]
    rw [if_neg (by omega)]
  | succ d ih =>
    intro k i hd hk
    obtain ⟨k, rfl⟩ : ∃ m, k = m + 1 := ⟨k - 1, by omega⟩
    simp only [laws_eqIntS.l0]
    by_cases h : i < l.length
    · rw [if_pos (by omega), if_pos (by omega), if_pos (by omega), if_pos trivial, wr _ (by omega) (by omega)]
      exact ih k (i + 1) (by omega) (by omega)
    · rw [if_neg (by omega)]
theorem eqInts_ev (l : List Int) (hl : l.length ≤ maxLen) : Ev (fun k => laws_eqIntS.f k l l) true := by
  refine Ev.of (fun k => laws_eqIntS.mono l l k) (k := l.length + 1) ?_
  unfold laws_eqIntS.f
  rw [if_pos rfl]
  exact eqInts_loop l hl l.length (l.length + 1) 0 (by omega) (by omega)
theorem rdK (l : List S38) (i : Nat) (h : i < l.length) : rd_T38 l (i : Int) = l[i] := by
  unfold rd_T38
  rw [Int.toNat_natCast, List.getD_eq_getElem?_getD, List.getElem?_eq_getElem h, Option.getD_some]
/-- Each lock's waits are no more than so many. -/
def shortK (l : List S38) : Prop := l.length ≤ 1048576 ∧ ∀ x ∈ l, x.f1.length ≤ 1048576
theorem eqLocks_loop (l : List S38) (hl : shortK l) : ∀ (d i : Nat), l.length - i = d → i ≤ l.length → Ev (fun k => laws_eqLockS.l0 k l l (i : Int)) true := by
  obtain ⟨hl1, hl2⟩ := hl
  intro d
  induction d with
  | zero =>
    intro i hd hi
    refine Ev.step (fun k => by simp only [laws_eqLockS.l0]; rfl) ?_
    exact evNeg (by omega) (Ev.now _)
  | succ d ih =>
    intro i hd hi
    have hi2 : i < l.length := by omega
    have e : wrap64 ((i : Int) + 1) = ((i + 1 : Nat) : Int) := by rw [wr _ (by omega) (by omega)]; omega
    refine Ev.step (fun k => by simp only [laws_eqLockS.l0]; rfl) ?_
    refine evPos (by omega) (evPos (by omega) (evPos (by omega) ?_))
    have hq : Ev (fun k => laws_eqIntS.f k (rd_T38 l (i : Int)).f1 (rd_T38 l (i : Int)).f1) true := by
      rw [rdK l i hi2]
      have := hl2 l[i] (List.getElem_mem hi2)
      exact eqInts_ev _ (by unfold maxLen; omega)
    rw [e]
    have hk : Ev (fun k => laws_eqLock.f k (rd_T38 l (i : Int)).f0 (rd_T38 l (i : Int)).f1 (rd_T38 l (i : Int)).f0 (rd_T38 l (i : Int)).f1) true := by
      unfold laws_eqLock.f
      exact evPos rfl (Ev.bind hq (evPos rfl (Ev.now _)))
    exact Ev.bind hk (evPos rfl (ih (i + 1) (by omega) (by omega)))
theorem eqLocks_ev (l : List S38) (hl : shortK l) : Ev (fun k => laws_eqLockS.f k l l) true := by
  unfold laws_eqLockS.f
  exact evPos rfl (eqLocks_loop l hl l.length 0 (by omega) (by omega))
theorem sOwns_loop (l : List S38) (hl : l.length ≤ 1048576) (v : Int) : ∀ (d i : Nat), l.length - i = d → i ≤ l.length → Ev (fun k => spec_OwnsAny.l0 k l v (i : Int)) (v != 0 && decide (0 ≤ idxF (fun t : S38 => t.f0 == v) (l.drop i) (i : Int))) := by
  intro d
  induction d with
  | zero =>
    intro i hd hi
    refine Ev.step (fun k => by simp only [spec_OwnsAny.l0]; rfl) ?_
    refine evNeg (by omega) ?_
    rw [List.drop_eq_nil_of_le (by omega), idxF]
    exact evEq _ (fun _ => rfl) (by simp)
  | succ d ih =>
    intro i hd hi
    have hi2 : i < l.length := by omega
    have e : wrap64 ((i : Int) + 1) = ((i + 1 : Nat) : Int) := by rw [wr _ (by omega) (by omega)]; omega
    have en := ih (i + 1) (by omega) (by omega)
    refine Ev.step (fun k => by simp only [spec_OwnsAny.l0]; rfl) ?_
    refine evPos (by omega) ?_
    rw [e]
    by_cases h0 : v = 0
    · refine evPos h0 ?_
      rw [show (v != 0) = false by simp [h0], Bool.false_and] at en ⊢
      exact en
    · refine evNeg h0 (evPos (by omega) ?_)
      rw [rdK l i hi2, List.drop_eq_getElem_cons hi2, idxF]
      by_cases h : (l[i]).f0 = v
      · rw [if_pos (by simp [h])]
        refine evPos h (evEq _ (fun _ => rfl) (congrArg some ?_))
        rw [show (v != 0) = true by simp [h0], decide_eq_true (show (0 : Int) ≤ (i : Int) by omega)]
        rfl
      · rw [if_neg (by simp [h])]
        exact evNeg h en
theorem sOwns_ev (l : List S38) (hl : l.length ≤ 1048576) (v : Int) : Ev (fun k => spec_OwnsAny.f k l v) (v != 0 && decide (0 ≤ idxF (fun t : S38 => t.f0 == v) l 0)) := sOwns_loop l hl v l.length 0 (by omega) (by omega)
def toK (x : S53) : S38 := ⟨x.f0, x.f1⟩
theorem shortK_map (l : List S53) (hl : l.length ≤ 1048576 ∧ ∀ x ∈ l, x.f1.length ≤ 1048576) : shortK (l.map toK) := by
  refine ⟨by rw [List.length_map]; exact hl.1, fun x hx => ?_⟩
  obtain ⟨y, hy, rfl⟩ := List.mem_map.1 hx
  exact hl.2 y hy
theorem rdLK (l : List S53) (i : Nat) (h : i < l.length) : rd_T53 l (i : Int) = l[i] := by
  unfold rd_T53
  rw [Int.toNat_natCast, List.getD_eq_getElem?_getD, List.getElem?_eq_getElem h, Option.getD_some]
theorem szLocks_loop (l : List S53) (hl : l.length ≤ 1048576) : ∀ (d i : Nat) (n : Int), l.length - i = d → i ≤ l.length → 0 ≤ n → n ≤ 1048576 → (∀ x ∈ l, x.f1.length ≤ maxLen) → ∃ r, Ev (fun k => laws_szLockS.l0 k l n (i : Int)) r ∧ (r < 0 ∨ ∀ x ∈ l.drop i, x.f1.length ≤ 1048576) := by
  intro d
  induction d with
  | zero =>
    intro i n hd hi h0 h1 hm
    refine ⟨n, ?_, .inr (by rw [List.drop_eq_nil_of_le (by omega)]; simp)⟩
    refine Ev.step (fun k => by simp only [laws_szLockS.l0]; rfl) ?_
    exact evNeg (by omega) (Ev.now _)
  | succ d ih =>
    intro i n hd hi h0 h1 hm
    have hi2 : i < l.length := by omega
    have hx := hm l[i] (List.getElem_mem hi2)
    unfold maxLen at hx
    have e : wrap64 ((i : Int) + 1) = ((i + 1 : Nat) : Int) := by rw [wr _ (by omega) (by omega)]; omega
    have hz : ∃ q, laws_szLock.f (l[i]).f0 (l[i]).f1 n = some q ∧ (q < 0 ∨ (0 ≤ q ∧ q ≤ n ∧ (l[i]).f1.length ≤ 1048576)) := by
      unfold laws_szLock.f laws_szIntS.f
      rw [wr _ (by omega) (by omega)]
      by_cases g : n - ((l[i]).f1.length : Int) < 0
      · rw [if_pos g]
        exact ⟨-1, by simp, .inl (by omega)⟩
      · rw [if_neg g]
        exact ⟨_, by rw [Option.bind_some, if_neg g], .inr ⟨by omega, by omega, by omega⟩⟩
    obtain ⟨q, hq, hc⟩ := hz
    by_cases hn : q < 0
    · refine ⟨-1, ?_, .inl (by omega)⟩
      refine Ev.step (fun k => by simp only [laws_szLockS.l0]; rfl) ?_
      refine evPos (by omega) (evPos (by omega) ?_)
      rw [rdLK l i hi2, hq]
      simp only [Option.bind_some]
      exact evPos hn (Ev.now _)
    · obtain ⟨c0, c1, c2⟩ := hc.resolve_left hn
      obtain ⟨r, hr, g⟩ := ih (i + 1) q (by omega) (by omega) c0 (by omega) hm
      refine ⟨r, ?_, ?_⟩
      · refine Ev.step (fun k => by simp only [laws_szLockS.l0]; rfl) ?_
        refine evPos (by omega) (evPos (by omega) ?_)
        rw [rdLK l i hi2, hq, e]
        simp only [Option.bind_some]
        exact evNeg hn hr
      · rcases g with g | g
        · exact .inl g
        · refine .inr fun x hx => ?_
          rw [List.drop_eq_getElem_cons hi2] at hx
          rcases List.mem_cons.1 hx with rfl | hx
          · exact c2
          · exact g x hx
theorem szLocks (l : List S53) (hm : l.length ≤ maxLen) (hx : ∀ x ∈ l, x.f1.length ≤ maxLen) : ∃ r, Ev (fun k => laws_szLockS.f k l 1048576) r ∧ (r < 0 ∨ (l.length ≤ 1048576 ∧ ∀ x ∈ l, x.f1.length ≤ 1048576)) := by
  unfold maxLen at hm
  by_cases h : 1048576 - (l.length : Int) < 0
  · refine ⟨-1, ?_, .inl (by omega)⟩
    unfold laws_szLockS.f
    rw [wr _ (by omega) (by omega)]
    exact evPos h (Ev.now _)
  · obtain ⟨r, e, g⟩ := szLocks_loop l (by omega) l.length 0 (1048576 - (l.length : Int)) (by omega) (by omega) (by omega) (by omega) hx
    refine ⟨r, ?_, ?_⟩
    · unfold laws_szLockS.f
      rw [wr _ (by omega) (by omega)]
      exact evNeg h e
    · rcases g with g | g
      · exact .inl g
      · exact .inr ⟨by omega, fun x hx => g x (by simpa using hx)⟩
theorem full {α : Type} (l : List α) (d : α) (i : Nat) (h : l.length ≤ i) : l.take i ++ List.replicate (l.length - i) d = l := by
  rw [List.take_of_length_le h, show l.length - i = 0 by omega, List.replicate_zero, List.append_nil]
theorem set_step {α : Type} (l : List α) (d : α) (i : Nat) (h : i < l.length) : (l.take i ++ List.replicate (l.length - i) d).set i l[i] = l.take (i + 1) ++ List.replicate (l.length - (i + 1)) d := by
  have hl : (l.take i).length = i := by rw [List.length_take]; omega
  rw [List.set_append_right _ _ (by omega), hl, Nat.sub_self, show l.length - i = (l.length - (i + 1)) + 1 by omega, List.replicate_succ, List.set_cons_zero, List.take_succ_eq_append_getElem h, List.append_assoc]
  rfl
theorem map_step {α β : Type} (f : α → β) (l : List α) (d : β) (i : Nat) (h : i < l.length) : ((l.map f).take i ++ List.replicate (l.length - i) d).set i (f l[i]) = (l.map f).take (i + 1) ++ List.replicate (l.length - (i + 1)) d := by
  have := set_step (l.map f) d i (by simpa using h)
  simpa using this
theorem rd_at (l : List Int) (i : Nat) (h : i < l.length) : rd l (i : Int) = l[i] := by
  unfold rd
  rw [Int.toNat_natCast, List.getD_eq_getElem?_getD, List.getElem?_eq_getElem h, Option.getD_some]
theorem toInts_loop (l : List Int) (hl : l.length ≤ maxLen) (d : Nat) : ∀ (k i : Nat), l.length - i ≤ d → d < k → laws_toIntS.l0 k l (l.take i ++ List.replicate (l.length - i) 0) (i : Int) = some l := by
  unfold maxLen at hl
  induction d with
  | zero =>
    intro k i hd hk
    obtain ⟨k, rfl⟩ : ∃ m, k = m + 1 := ⟨k - 1, by omega⟩
    simp only [laws_toIntS.l0]
    rw [if_neg (by omega), full l 0 i (by omega)]
  | succ d ih =>
    intro k i hd hk
    obtain ⟨k, rfl⟩ : ∃ m, k = m + 1 := ⟨k - 1, by omega⟩
    simp only [laws_toIntS.l0]
    by_cases h : i < l.length
    · rw [if_pos (by omega), if_pos (by omega), if_pos (by rw [List.length_append, List.length_take, List.length_replicate]; omega), rd_at l i h, Int.toNat_natCast, set_step l 0 i h, wr _ (by omega) (by omega)]
      exact ih k (i + 1) (by omega) (by omega)
    · rw [if_neg (by omega), full l 0 i (by omega)]
theorem toInts_ev (l : List Int) (hl : l.length ≤ 35184372088832) : Ev (fun k => laws_toIntS.f k l) l := by
  refine Ev.of (fun k => laws_toIntS.mono l k) (k := l.length + 1) ?_
  unfold laws_toIntS.f
  rw [if_pos (by omega), if_pos (by simp only [Int.toNat_natCast]; exact hl), Int.toNat_natCast]
  have := toInts_loop l (by unfold maxLen; omega) l.length (l.length + 1) 0 (by omega) (by omega)
  simpa using this
theorem toLocks_loop (l : List S53) (hl : l.length ≤ 1048576 ∧ ∀ x ∈ l, x.f1.length ≤ 1048576) : ∀ (d i : Nat), l.length - i = d → i ≤ l.length → Ev (fun k => laws_toLockS.l0 k l ((l.map toK).take i ++ List.replicate (l.length - i) z38) (i : Int)) (l.map toK) := by
  intro d
  induction d with
  | zero =>
    intro i hd hi
    refine Ev.step (fun k => by simp only [laws_toLockS.l0]; rfl) ?_
    refine evNeg (by omega) ?_
    have e := full (l.map toK) z38 i (by rw [List.length_map]; omega)
    rw [List.length_map] at e
    rw [e]
    exact Ev.now _
  | succ d ih =>
    intro i hd hi
    have hi2 : i < l.length := by omega
    have e : wrap64 ((i : Int) + 1) = ((i + 1 : Nat) : Int) := by rw [wr _ (by omega) (by omega)]; omega
    refine Ev.step (fun k => by simp only [laws_toLockS.l0]; rfl) ?_
    refine evPos (by omega) (evPos (by omega) ?_)
    rw [rdLK l i hi2, e]
    have hq := toInts_ev (l[i]).f1 (by have := hl.2 l[i] (List.getElem_mem hi2); omega)
    have hk : Ev (fun k => laws_toLock.f k (l[i]).f0 (l[i]).f1) ((l[i]).f0, (l[i]).f1) := by
      unfold laws_toLock.f
      exact Ev.bind hq (Ev.now _)
    refine Ev.bind hk ?_
    · refine evPos (by rw [List.length_append, List.length_take, List.length_replicate, List.length_map]; omega) ?_
      rw [Int.toNat_natCast]
      have g := map_step toK l z38 i hi2
      unfold toK at g ⊢
      rw [g]
      exact ih (i + 1) (by omega) (by omega)
theorem toLocks_ev (l : List S53) (hl : l.length ≤ 1048576 ∧ ∀ x ∈ l, x.f1.length ≤ 1048576) : Ev (fun k => laws_toLockS.f k l) (l.map toK) := by
  have := toLocks_loop l hl l.length 0 (by omega) (by omega)
  unfold laws_toLockS.f
  refine evPos (by omega) (evPos (by simp only [Int.toNat_natCast]; omega) ?_)
  rw [Int.toNat_natCast]
  simpa using this
theorem FnExactOwnsAny : laws_FnExactOwnsAny.Pure := by
  intro l no hm hok _
  refine Ev.rounds (r := true) ?_
  unfold laws_FnExactOwnsAny.f
  obtain ⟨r, e, hr⟩ := szLocks l hm (fun x hx => (hok x hx).2.1)
  refine Ev.bind e ?_
  by_cases h : r < 0
  · exact evPos h (Ev.now _)
  · refine evNeg h ?_
    have hl := hr.resolve_left h
    have ht := toLocks_ev l hl
    have hs := shortK_map l hl
    refine Ev.bind ht (Ev.bind (sOwns_ev _ hs.1 no) (Ev.bind ht ?_))
    simp only [impl_OwnsAny.f, Option.bind_some, bne_self_eq_false]
    refine evNeg (by decide) (Ev.bind ht (Ev.bind (eqLocks_ev _ hs) (evPos rfl (Ev.now _))))

end Go.Proofs.Ytejbmknoolkmhaa.Pure
