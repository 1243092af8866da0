/- What came in at a law's call, struct by struct, read out as this text's own values. Conditions: the value is as the row's reading has it. -/
import Derived.Test.YtbihinhckmfplaaRowLib
import Derived.Test.YtbihinhckmfplaaPrint0
import Derived.KernelRfl
import Derived.WideShapes
set_option linter.unusedVariables false
set_option maxRecDepth 100000
namespace Go.Proofs.Ytbihinhckmfplaa.Print
open Go.RowKit Go.Proofs.YtbihinhckmfplaaW.PrintWords Go.Proofs.YtbihinhckmfplaaW.PrintLast Go.WideShapes
section
variable {H : Type} {enc : TypeId × Value → H} {w : World} {sp : Nat → Bool} {held : Bool}
theorem cell_T30 (n : Nat) (cs : List Value) (y : DataW H × List MemPlace) (h : DataW.trod enc Try.prog w 0 sp held n 30 cs = some y) : ∃ x, k30.K w x cs ∧ ok30 x := by
  obtain ⟨xs, m, _, _, hc, hx, hf⟩ := DataW.trod_struct Try.underlying30 h
  have g := one_of (by kernel_rfl) (hc.trans (by kernel_rfl)) hx hf
  have hc : cs.length = 14 := hc.trans (by kernel_rfl)
  obtain ⟨v0, y0, e0, t0⟩ := g 0 _ rfl
  obtain ⟨v1, y1, e1, t1⟩ := g 1 _ rfl
  obtain ⟨v2, y2, e2, t2⟩ := g 2 _ rfl
  obtain ⟨v3, y3, e3, t3⟩ := g 3 _ rfl
  obtain ⟨v4, y4, e4, t4⟩ := g 4 _ rfl
  obtain ⟨v5, y5, e5, t5⟩ := g 5 _ rfl
  obtain ⟨v6, y6, e6, t6⟩ := g 6 _ rfl
  obtain ⟨v7, y7, e7, t7⟩ := g 7 _ rfl
  obtain ⟨v8, y8, e8, t8⟩ := g 8 _ rfl
  obtain ⟨v9, y9, e9, t9⟩ := g 9 _ rfl
  obtain ⟨v10, y10, e10, t10⟩ := g 10 _ rfl
  obtain ⟨v11, y11, e11, t11⟩ := g 11 _ rfl
  obtain ⟨v12, y12, e12, t12⟩ := g 12 _ rfl
  obtain ⟨v13, y13, e13, t13⟩ := g 13 _ rfl
  clear g hf h
  obtain ⟨a0, h0, _, w0⟩ := DataW.trod_int Try.underlying3 t0
  obtain rfl := (List.cons.inj h0).1
  clear t0 h0
  obtain ⟨a1, h1, _, w1⟩ := DataW.trod_int Try.underlying3 t1
  obtain rfl := (List.cons.inj h1).1
  clear t1 h1
  obtain ⟨a2, h2, _, w2⟩ := DataW.trod_int Try.underlying3 t2
  obtain rfl := (List.cons.inj h2).1
  clear t2 h2
  obtain ⟨a3, h3, _, w3⟩ := DataW.trod_int Try.underlying3 t3
  obtain rfl := (List.cons.inj h3).1
  clear t3 h3
  obtain ⟨a4, h4, _⟩ := DataW.trod_bool Try.underlying4 t4
  obtain rfl := (List.cons.inj h4).1
  clear t4 h4
  obtain ⟨a5, h5, _, w5⟩ := DataW.trod_int Try.underlying3 t5
  obtain rfl := (List.cons.inj h5).1
  clear t5 h5
  obtain ⟨a6, h6, _, w6⟩ := DataW.trod_int Try.underlying3 t6
  obtain rfl := (List.cons.inj h6).1
  clear t6 h6
  obtain ⟨a7, h7, _, w7⟩ := DataW.trod_int Try.underlying3 t7
  obtain rfl := (List.cons.inj h7).1
  clear t7 h7
  obtain ⟨a8, h8, _, w8⟩ := DataW.trod_int Try.underlying3 t8
  obtain rfl := (List.cons.inj h8).1
  clear t8 h8
  obtain ⟨a9, h9, _, w9⟩ := DataW.trod_int Try.underlying3 t9
  obtain rfl := (List.cons.inj h9).1
  clear t9 h9
  obtain ⟨a10, h10, _, w10⟩ := DataW.trod_int Try.underlying3 t10
  obtain rfl := (List.cons.inj h10).1
  clear t10 h10
  obtain ⟨a11, h11, _, w11⟩ := DataW.trod_int Try.underlying3 t11
  obtain rfl := (List.cons.inj h11).1
  clear t11 h11
  obtain ⟨a12, h12, _, w12⟩ := DataW.trod_int Try.underlying3 t12
  obtain rfl := (List.cons.inj h12).1
  clear t12 h12
  obtain ⟨a13, h13, _, w13⟩ := DataW.trod_int Try.underlying3 t13
  obtain rfl := (List.cons.inj h13).1
  clear t13 h13
  obtain rfl : cs = [.int .i64 a0, .int .i64 a1, .int .i64 a2, .int .i64 a3, .bool a4, .int .i64 a5, .int .i64 a6, .int .i64 a7, .int .i64 a8, .int .i64 a9, .int .i64 a10, .int .i64 a11, .int .i64 a12, .int .i64 a13] := by
    match cs, hc with
    | [b0, b1, b2, b3, b4, b5, b6, b7, b8, b9, b10, b11, b12, b13], _ =>
      obtain rfl := Option.some.inj e0
      obtain rfl := Option.some.inj e1
      obtain rfl := Option.some.inj e2
      obtain rfl := Option.some.inj e3
      obtain rfl := Option.some.inj e4
      obtain rfl := Option.some.inj e5
      obtain rfl := Option.some.inj e6
      obtain rfl := Option.some.inj e7
      obtain rfl := Option.some.inj e8
      obtain rfl := Option.some.inj e9
      obtain rfl := Option.some.inj e10
      obtain rfl := Option.some.inj e11
      obtain rfl := Option.some.inj e12
      obtain rfl := Option.some.inj e13
      rfl
  exact ⟨⟨a0, a1, a2, a3, a4, a5, a6, a7, a8, a9, a10, a11, a12, a13⟩, k30_mk w ⟨a0, a1, a2, a3, a4, a5, a6, a7, a8, a9, a10, a11, a12, a13⟩ , ⟨w0, w1, w2, w3, w5, w6, w7, w8, w9, w10, w11, w12, w13⟩⟩
theorem agg_T30 {r : Reach} {b0 : Nat} {v : Value} {d : DataW H} {p : List MemPlace} (hv : Value.okWide Try.prog w r b0 30 v) (h : DataW.Trod enc Try.prog w 0 sp held 30 v d p) : ∃ x : S30, v = .agg #[.int .i64 x.f0, .int .i64 x.f1, .int .i64 x.f2, .int .i64 x.f3, .bool x.f4, .int .i64 x.f5, .int .i64 x.f6, .int .i64 x.f7, .int .i64 x.f8, .int .i64 x.f9, .int .i64 x.f10, .int .i64 x.f11, .int .i64 x.f12, .int .i64 x.f13] ∧ ok30 x := by
  obtain ⟨arr, rfl, _⟩ := okWide_struct Try.underlying30 hv
  obtain ⟨l⟩ := arr
  obtain ⟨fuel, hf⟩ := h
  obtain ⟨x, hk, hg⟩ := cell_T30 _ _ _ hf
  refine ⟨x, ?_, hg⟩
  have := k30_open hk
  simp only [Value.cells] at this
  rw [this]
theorem cell_T24 (n : Nat) (cs : List Value) (y : DataW H × List MemPlace) (h : DataW.trod enc Try.prog w 0 sp held n 24 cs = some y) : ∃ x, k24.K w x cs ∧ ok24 x := by
  obtain ⟨xs, m, _, _, hc, hx, hf⟩ := DataW.trod_struct Try.underlying24 h
  have g := one_of (by kernel_rfl) (hc.trans (by kernel_rfl)) hx hf
  have hc : cs.length = 14 := hc.trans (by kernel_rfl)
  obtain ⟨v0, y0, e0, t0⟩ := g 0 _ rfl
  obtain ⟨v1, y1, e1, t1⟩ := g 1 _ rfl
  obtain ⟨v2, y2, e2, t2⟩ := g 2 _ rfl
  obtain ⟨v3, y3, e3, t3⟩ := g 3 _ rfl
  obtain ⟨v4, y4, e4, t4⟩ := g 4 _ rfl
  obtain ⟨v5, y5, e5, t5⟩ := g 5 _ rfl
  obtain ⟨v6, y6, e6, t6⟩ := g 6 _ rfl
  obtain ⟨v7, y7, e7, t7⟩ := g 7 _ rfl
  obtain ⟨v8, y8, e8, t8⟩ := g 8 _ rfl
  obtain ⟨v9, y9, e9, t9⟩ := g 9 _ rfl
  obtain ⟨v10, y10, e10, t10⟩ := g 10 _ rfl
  obtain ⟨v11, y11, e11, t11⟩ := g 11 _ rfl
  obtain ⟨v12, y12, e12, t12⟩ := g 12 _ rfl
  obtain ⟨v13, y13, e13, t13⟩ := g 13 _ rfl
  clear g hf h
  obtain ⟨a0, h0, _, w0⟩ := DataW.trod_int Try.underlying3 t0
  obtain rfl := (List.cons.inj h0).1
  clear t0 h0
  obtain ⟨a1, h1, _, w1⟩ := DataW.trod_int Try.underlying3 t1
  obtain rfl := (List.cons.inj h1).1
  clear t1 h1
  obtain ⟨a2, h2, _, w2⟩ := DataW.trod_int Try.underlying3 t2
  obtain rfl := (List.cons.inj h2).1
  clear t2 h2
  obtain ⟨a3, h3, _, w3⟩ := DataW.trod_int Try.underlying3 t3
  obtain rfl := (List.cons.inj h3).1
  clear t3 h3
  obtain ⟨a4, h4, _⟩ := DataW.trod_bool Try.underlying4 t4
  obtain rfl := (List.cons.inj h4).1
  clear t4 h4
  obtain ⟨a5, h5, _, w5⟩ := DataW.trod_int Try.underlying3 t5
  obtain rfl := (List.cons.inj h5).1
  clear t5 h5
  obtain ⟨a6, h6, _, w6⟩ := DataW.trod_int Try.underlying3 t6
  obtain rfl := (List.cons.inj h6).1
  clear t6 h6
  obtain ⟨a7, h7, _, w7⟩ := DataW.trod_int Try.underlying3 t7
  obtain rfl := (List.cons.inj h7).1
  clear t7 h7
  obtain ⟨a8, h8, _, w8⟩ := DataW.trod_int Try.underlying3 t8
  obtain rfl := (List.cons.inj h8).1
  clear t8 h8
  obtain ⟨a9, h9, _, w9⟩ := DataW.trod_int Try.underlying3 t9
  obtain rfl := (List.cons.inj h9).1
  clear t9 h9
  obtain ⟨a10, h10, _, w10⟩ := DataW.trod_int Try.underlying3 t10
  obtain rfl := (List.cons.inj h10).1
  clear t10 h10
  obtain ⟨a11, h11, _, w11⟩ := DataW.trod_int Try.underlying3 t11
  obtain rfl := (List.cons.inj h11).1
  clear t11 h11
  obtain ⟨a12, h12, _, w12⟩ := DataW.trod_int Try.underlying3 t12
  obtain rfl := (List.cons.inj h12).1
  clear t12 h12
  obtain ⟨a13, h13, _, w13⟩ := DataW.trod_int Try.underlying3 t13
  obtain rfl := (List.cons.inj h13).1
  clear t13 h13
  obtain rfl : cs = [.int .i64 a0, .int .i64 a1, .int .i64 a2, .int .i64 a3, .bool a4, .int .i64 a5, .int .i64 a6, .int .i64 a7, .int .i64 a8, .int .i64 a9, .int .i64 a10, .int .i64 a11, .int .i64 a12, .int .i64 a13] := by
    match cs, hc with
    | [b0, b1, b2, b3, b4, b5, b6, b7, b8, b9, b10, b11, b12, b13], _ =>
      obtain rfl := Option.some.inj e0
      obtain rfl := Option.some.inj e1
      obtain rfl := Option.some.inj e2
      obtain rfl := Option.some.inj e3
      obtain rfl := Option.some.inj e4
      obtain rfl := Option.some.inj e5
      obtain rfl := Option.some.inj e6
      obtain rfl := Option.some.inj e7
      obtain rfl := Option.some.inj e8
      obtain rfl := Option.some.inj e9
      obtain rfl := Option.some.inj e10
      obtain rfl := Option.some.inj e11
      obtain rfl := Option.some.inj e12
      obtain rfl := Option.some.inj e13
      rfl
  exact ⟨⟨a0, a1, a2, a3, a4, a5, a6, a7, a8, a9, a10, a11, a12, a13⟩, k24_mk w ⟨a0, a1, a2, a3, a4, a5, a6, a7, a8, a9, a10, a11, a12, a13⟩ , ⟨w0, w1, w2, w3, w5, w6, w7, w8, w9, w10, w11, w12, w13⟩⟩
theorem agg_T24 {r : Reach} {b0 : Nat} {v : Value} {d : DataW H} {p : List MemPlace} (hv : Value.okWide Try.prog w r b0 24 v) (h : DataW.Trod enc Try.prog w 0 sp held 24 v d p) : ∃ x : S24, v = .agg #[.int .i64 x.f0, .int .i64 x.f1, .int .i64 x.f2, .int .i64 x.f3, .bool x.f4, .int .i64 x.f5, .int .i64 x.f6, .int .i64 x.f7, .int .i64 x.f8, .int .i64 x.f9, .int .i64 x.f10, .int .i64 x.f11, .int .i64 x.f12, .int .i64 x.f13] ∧ ok24 x := by
  obtain ⟨arr, rfl, _⟩ := okWide_struct Try.underlying24 hv
  obtain ⟨l⟩ := arr
  obtain ⟨fuel, hf⟩ := h
  obtain ⟨x, hk, hg⟩ := cell_T24 _ _ _ hf
  refine ⟨x, ?_, hg⟩
  have := k24_open hk
  simp only [Value.cells] at this
  rw [this]
end
end Go.Proofs.Ytbihinhckmfplaa.Print
