/- Contracts behind a law: no conditions beyond those in each statement. -/
import Derived.Test.YtnkkkeohhgbhnaaJ5
set_option maxRecDepth 100000
set_option linter.unusedVariables false
set_option linter.unusedSimpArgs false
/-! A pair of points as an argument of a row. -/
namespace Go.Av
open Go Go.Proofs Go.ChangeShapes Go.WideShapes Go.ChangeAt Go.RowKit Go.Joins
section
variable {H : Type} {enc : TypeId × Value → H} {W : World} {base : Nat}
theorem arr4_ (T : Array Value) (h : T.size = 4) : ∃ a b c d : Value, T = #[a, b, c, d] := by
  obtain ⟨l⟩ := T
  simp only [List.size_toArray] at h
  match l, h with
  | [a, b, c, d], _ => exact ⟨a, b, c, d, rfl⟩
theorem arg_pair {v : Value} {d : DataW H} {p : List MemPlace} (hval : Value.okWide Try.prog W .any base 45 v) (h : DataW.Trod enc Try.prog W 0 (fun _ => true) true 45 v d p) :
    ∃ a b : Pt, (inP a ∧ inP b) ∧ Rel W (fun _ b => b < W.heap.size ∧ True) (.ag [I a.1, I a.2, I b.1, I b.2]) v := by
  have hc4 : Try.prog.cellsOf 45 = 4 := by kernel_rfl
  have hc2 : Try.prog.cellsOf 28 = 2 := by kernel_rfl
  have hc1 : Try.prog.cellsOf 3 = 1 := by kernel_rfl
  have hu : Try.prog.underlying 45 = some (.array 2 28) := Try.underlying45
  simp only [Value.okWide, hu] at hval
  obtain ⟨cs, rfl, h4, _⟩ := hval
  obtain ⟨c0, c1, c2, c3, rfl⟩ := arr4_ cs (h4.trans hc4)
  obtain ⟨fuel, hf⟩ := h
  cases fuel with
  | zero => simp [DataW.trod] at hf
  | succ n =>
    unfold DataW.trod at hf
    rw [hu] at hf
    have r2 : List.range 2 = [0, 1] := rfl
    simp only [Value.cells, r2, hc2, hc4] at hf
    simp at hf
    cases h0 : DataW.trod enc Try.prog W 0 (fun _ => true) true n 28 [c0, c1] with
    | none => simp [h0] at hf
    | some y0 =>
      cases h1 : DataW.trod enc Try.prog W 0 (fun _ => true) true n 28 [c2, c3] with
      | none => simp [h0, h1] at hf
      | some y1 =>
        obtain ⟨_, _, _, _, _, h00, h01⟩ := trod_struct2 Try.underlying28 h0
        obtain ⟨_, _, _, _, _, h10, h11⟩ := trod_struct2 Try.underlying28 h1
        simp only [hc1, List.drop_zero, List.take_succ_cons, List.take_zero, List.drop_succ_cons] at h00 h01 h10 h11
        obtain ⟨n0, e0, _, w0⟩ := DataW.trod_int Try.underlying3 h00
        obtain ⟨n1, e1, _, w1⟩ := DataW.trod_int Try.underlying3 h01
        obtain ⟨n2, e2, _, w2⟩ := DataW.trod_int Try.underlying3 h10
        obtain ⟨n3, e3, _, w3⟩ := DataW.trod_int Try.underlying3 h11
        simp only [List.cons.injEq, and_true] at e0 e1 e2 e3
        subst e0 e1 e2 e3
        refine ⟨(n0, n1), (n2, n3), ⟨⟨wf64 w0, wf64 w1⟩, wf64 w2, wf64 w3⟩, ?_⟩
        simp only [Rel, Rels]
        exact ⟨[_, _, _, _], rfl, _, _, rfl, rfl, _, _, rfl, rfl, _, _, rfl, rfl, _, _, rfl, rfl, rfl⟩
end
end Go.Av
