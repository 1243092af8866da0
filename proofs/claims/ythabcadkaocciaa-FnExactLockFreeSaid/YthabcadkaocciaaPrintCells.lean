/- What came in at a law's call, struct by struct, read out as this text's own values. Conditions: the value is as the row's reading has it. -/
import Derived.Test.YthabcadkaocciaaRowLib
import Derived.Test.YthabcadkaocciaaPrint0
import Derived.KernelRfl
import Derived.WideShapes
set_option linter.unusedVariables false
set_option maxRecDepth 100000
namespace Go.Proofs.Ythabcadkaocciaa.Print
open Go.RowKit Go.Proofs.YthabcadkaocciaaW.PrintWords Go.Proofs.YthabcadkaocciaaW.PrintLast Go.WideShapes
section
variable {H : Type} {enc : TypeId × Value → H} {w : World} {sp : Nat → Bool} {held : Bool}
theorem cell_T45 (n : Nat) (cs : List Value) (y : DataW H × List MemPlace) (h : DataW.trod enc Try.prog w 0 sp held n 45 cs = some y) : ∃ x, k45.K w x cs ∧ ok45 x := by
  obtain ⟨xs, m, _, _, hc, hx, hf⟩ := DataW.trod_struct Try.underlying45 h
  have g := one_of (by kernel_rfl) (hc.trans (by kernel_rfl)) hx hf
  have hc : cs.length = 2 := hc.trans (by kernel_rfl)
  obtain ⟨v0, y0, e0, t0⟩ := g 0 _ rfl
  obtain ⟨v1, y1, e1, t1⟩ := g 1 _ rfl
  clear g hf h
  obtain ⟨a0, h0, _, w0⟩ := DataW.trod_int Try.underlying3 t0
  obtain rfl := (List.cons.inj h0).1
  clear t0 h0
  obtain ⟨A1, c1, a1, h1, l1, m1, r1, w1⟩ := row_in (Kd.int .i64) wfI Try.underlying24 (by kernel_rfl) (cell_int Try.underlying3) t1
  obtain rfl := (List.cons.inj h1).1
  clear t1 h1
  obtain rfl : cs = [.int .i64 a0, .slice A1 a1.length c1] := by
    match cs, hc with
    | [b0, b1], _ =>
      obtain rfl := Option.some.inj e0
      obtain rfl := Option.some.inj e1
      rfl
  exact ⟨⟨a0, a1⟩, k45_mk w ⟨a0, a1⟩ l1 r1, ⟨w0, ⟨m1, w1⟩⟩⟩
theorem cell_T41 (n : Nat) (cs : List Value) (y : DataW H × List MemPlace) (h : DataW.trod enc Try.prog w 0 sp held n 41 cs = some y) : ∃ x, k41.K w x cs ∧ ok41 x := by
  obtain ⟨xs, m, _, _, hc, hx, hf⟩ := DataW.trod_struct Try.underlying41 h
  have g := one_of (by kernel_rfl) (hc.trans (by kernel_rfl)) hx hf
  have hc : cs.length = 2 := hc.trans (by kernel_rfl)
  obtain ⟨v0, y0, e0, t0⟩ := g 0 _ rfl
  obtain ⟨v1, y1, e1, t1⟩ := g 1 _ rfl
  clear g hf h
  obtain ⟨a0, h0, _, w0⟩ := DataW.trod_int Try.underlying3 t0
  obtain rfl := (List.cons.inj h0).1
  clear t0 h0
  obtain ⟨A1, c1, a1, h1, l1, m1, r1, w1⟩ := row_in (Kd.int .i64) wfI Try.underlying24 (by kernel_rfl) (cell_int Try.underlying3) t1
  obtain rfl := (List.cons.inj h1).1
  clear t1 h1
  obtain rfl : cs = [.int .i64 a0, .slice A1 a1.length c1] := by
    match cs, hc with
    | [b0, b1], _ =>
      obtain rfl := Option.some.inj e0
      obtain rfl := Option.some.inj e1
      rfl
  exact ⟨⟨a0, a1⟩, k41_mk w ⟨a0, a1⟩ l1 r1, ⟨w0, ⟨m1, w1⟩⟩⟩
end
end Go.Proofs.Ythabcadkaocciaa.Print
