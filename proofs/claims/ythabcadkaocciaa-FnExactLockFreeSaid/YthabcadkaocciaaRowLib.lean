/- How a slice or a struct that came in is read as a list or as numbers. Conditions: it reads as the row's form says. -/
import Derived.Test.YthabcadkaocciaaWd
import Derived.Deep.Slices
import Derived.Deep.Fields
import Derived.ChangeSame
import Derived.ChangeArms
set_option linter.unusedVariables false
namespace Go.Proofs.Ythabcadkaocciaa.Print
open Go.RowKit Go.Proofs.YthabcadkaocciaaW.PrintWords
section
variable {H : Type} {enc : TypeId × Value → H} {P : Program} {w : World} {sp : Nat → Bool} {held : Bool}
/-- A slice among what came in, read as a row of elements; every element is as its own reading says. -/
theorem row_in {α : Type} (d : Kd α) (good : α → Prop) {t e : TypeId} {n : Nat} {cs : List Value} {y : DataW H × List MemPlace} (ht : P.underlying t = some (.slice e)) (hs : P.cellsOf e = d.sz)
    (hcell : ∀ (n : Nat) (cs : List Value) (y : DataW H × List MemPlace), DataW.trod enc P w 0 sp held n e cs = some y → ∃ x, d.K w x cs ∧ good x) (h : DataW.trod enc P w 0 sp held n t cs = some y) :
    ∃ (A : Option Addr) (c : Nat) (l : List α), cs = [.slice A l.length c] ∧ l.length ≤ c ∧ l.length ≤ maxLen ∧ d.C w A l.length l ∧ ∀ x ∈ l, good x := by
  rcases Go.Deep.open_slice ht h with ⟨rfl, _⟩ | ⟨a, len, cap, m, q, D, Pl, rfl, _, hl, hm, hmm, _, hi⟩
  · exact ⟨none, 0, [], rfl, Nat.le_refl _, Nat.zero_le _, ⟨rfl, Nat.zero_le _, fun hn => absurd hn (Nat.lt_irrefl _)⟩, fun x hx => absurd hx List.not_mem_nil⟩
  · have hlm : len ≤ m := by rw [hmm]; split <;> omega
    have key : ∀ i : Fin len, ∃ x, ∃ cs', w.cells? 0 (a.add (i.val * P.cellsOf e)) (P.cellsOf e) = some cs' ∧ d.K w x cs' ∧ good x := by
      intro i
      obtain ⟨cs', h1, h2⟩ := hi i.val (Nat.lt_of_lt_of_le i.isLt hlm)
      obtain ⟨x, hk, hg⟩ := hcell _ _ _ h2
      exact ⟨x, cs', h1, hk, hg⟩
    have hlen : (List.ofFn fun i : Fin len => Classical.choose (key i)).length = len := by simp
    refine ⟨some a, cap, List.ofFn fun i : Fin len => Classical.choose (key i), by rw [hlen], by rw [hlen]; exact hl, by rw [hlen]; exact Nat.le_trans hl hm, ⟨by rw [hlen], ?_, fun _ => ⟨a, rfl, ?_⟩⟩, ?_⟩
    · rw [hlen]
      have := Nat.le_trans hl hm
      unfold maxLen at this
      omega
    · intro j p hj
      obtain ⟨hjl, hp⟩ := List.getElem?_eq_some_iff.1 hj
      rw [hlen] at hjl
      rw [List.getElem_ofFn] at hp
      obtain ⟨cs', h1, h2, _⟩ := Classical.choose_spec (key ⟨j, hjl⟩)
      rw [hp] at h2
      obtain ⟨_, hcl, hat⟩ := World.cells?_some h1
      refine ⟨cs', d.K_len h2, h2, fun i u hu => ?_⟩
      have hil := (List.getElem?_eq_some_iff.1 hu).1
      have hq := hat i (by omega)
      rw [Go.Deep.add_add, hs] at hq
      rw [hq, hu]
    · intro x hx
      obtain ⟨i, rfl⟩ := List.mem_ofFn.1 hx
      exact (Classical.choose_spec (key i)).choose_spec.2.2
theorem row_of {α : Type} (d : Kd α) (good : α → Prop) {t e : TypeId} {A : Option Addr} {len cap : Nat} {dd : DataW H} {p : List MemPlace} (ht : P.underlying t = some (.slice e)) (hs : P.cellsOf e = d.sz)
    (hcell : ∀ (n : Nat) (cs : List Value) (y : DataW H × List MemPlace), DataW.trod enc P w 0 sp held n e cs = some y → ∃ x, d.K w x cs ∧ good x) (h : DataW.Trod enc P w 0 sp held t (.slice A len cap) dd p) :
    ∃ l : List α, len = l.length ∧ l.length ≤ cap ∧ l.length ≤ maxLen ∧ d.C w A l.length l ∧ ∀ x ∈ l, good x := by
  obtain ⟨fuel, hf⟩ := h
  obtain ⟨A', c', l, hcs, h1, h2, h3, h4⟩ := row_in d good ht hs hcell hf
  simp [Value.cells] at hcs
  obtain ⟨rfl, rfl, rfl⟩ := hcs
  exact ⟨l, rfl, h1, h2, h3, h4⟩
theorem cell_int {e : TypeId} (he : P.underlying e = some (.int .i64)) (n : Nat) (cs : List Value) (y : DataW H × List MemPlace) (h : DataW.trod enc P w 0 sp held n e cs = some y) : ∃ x, (Kd.int .i64).K w x cs ∧ (Lit.int .i64 x).wf = true := by
  obtain ⟨x, rfl, _, hw⟩ := DataW.trod_int he h
  exact ⟨x, rfl, hw⟩
theorem one_of {fs : Array Field} {n : Nat} {cs : List Value} {xs : List (DataW H × List MemPlace)} (hone : Go.Deep.oneCellFields P fs = true) (hc : cs.length = fs.size) (hx : xs.length = fs.size)
    (hf : ∀ (i : Nat) (f : Field), fs[i]? = some f → DataW.trod enc P w 0 sp held n f.type ((cs.drop f.offset).take (P.cellsOf f.type)) = xs[i]?) (j : Nat) (f : Field) (hj : fs[j]? = some f) :
    ∃ (v : Value) (y : DataW H × List MemPlace), cs[j]? = some v ∧ DataW.trod enc P w 0 sp held n f.type [v] = some y := by
  obtain ⟨ho, hk⟩ := Go.Deep.hone_of hone j f hj
  have hjl : j < fs.size := (Array.getElem?_eq_some_iff.1 hj).1
  have h1 := hf j f hj
  rw [ho, hk] at h1
  have hone' : (cs.drop j).take 1 = [cs[j]'(by omega)] := by
    rw [List.drop_eq_getElem_cons (by omega)]
    rfl
  rw [hone'] at h1
  exact ⟨_, _, List.getElem?_eq_getElem (by omega), h1.trans (List.getElem?_eq_getElem (by omega))⟩
end
end Go.Proofs.Ythabcadkaocciaa.Print
