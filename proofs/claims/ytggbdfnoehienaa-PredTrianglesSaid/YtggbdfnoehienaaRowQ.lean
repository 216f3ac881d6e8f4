/- From a walk to a given row: arrays of points by value. -/
import Derived.Test.YtggbdfnoehienaaRowP
set_option linter.unusedSimpArgs false
set_option linter.unusedVariables false
namespace Go.Proofs.Ytggbdfnoehienaa
open Go.ChangeShapes Go.WideShapes Go.ChangeAt Go.RowKit Go.Joins

/-- a point's two cells, read -/
theorem open_ptc {H : Type} {enc : TypeId × Value → H} {w : World} {base m : Nat} {spare : Nat → Bool} {held : Bool} {c0 c1 : Value} {z : DataW H × List MemPlace} (h : DataW.trod enc Try.prog w base spare held m 53 [c0, c1] = some z) :
    ∃ x y : Int, z = (.agg [.lit (.int .i64 x), .lit (.int .i64 y)], []) ∧ c0 = .int .i64 x ∧ c1 = .int .i64 y ∧ (Lit.int .i64 x).wf = true ∧ (Lit.int .i64 y).wf = true := by
  obtain ⟨y0, y1, n, hx, _, h0, h1⟩ := trod_struct2 Try.underlying53 h
  have k : Try.prog.cellsOf 3 = 1 := cellsI
  simp only [k] at h0 h1
  obtain ⟨a, e0, q0, wa⟩ := DataW.trod_int (fuel := n) (cs := [c0]) Try.underlying3 (by simpa using h0)
  obtain ⟨b, e1, q1, wb⟩ := DataW.trod_int (fuel := n) (cs := [c1]) Try.underlying3 (by simpa using h1)
  simp at e0 e1
  subst e0 e1 q0 q1
  exact ⟨a, b, hx, rfl, rfl, wa, wb⟩
theorem cellsP4 : Try.prog.cellsOf 57 = 8 := by kernel_rfl
theorem list4' {α : Type} {cs : Array α} (h : cs.size = 8) : ∃ c0 c1 c2 c3 c4 c5 c6 c7, cs = #[c0, c1, c2, c3, c4, c5, c6, c7] := by
  obtain ⟨l⟩ := cs
  match l, h with
  | [c0, c1, c2, c3, c4, c5, c6, c7], _ => exact ⟨c0, c1, c2, c3, c4, c5, c6, c7, rfl⟩
section
variable {H : Type} {enc : TypeId × Value → H} {w : World} {base b0 : Nat} {spare : Nat → Bool} {held : Bool} {r : Reach} {v : Value} {d : DataW H} {p : List MemPlace}
theorem open_pts4 (hv : Value.okWide Try.prog w r b0 57 v) (h : DataW.Trod enc Try.prog w base spare held 57 v d p) :
    ∃ x0 y0 x1 y1 x2 y2 x3 y3 : Int, v = .agg #[.int .i64 x0, .int .i64 y0, .int .i64 x1, .int .i64 y1, .int .i64 x2, .int .i64 y2, .int .i64 x3, .int .i64 y3] ∧ d = .agg [.agg [.lit (.int .i64 x0), .lit (.int .i64 y0)], .agg [.lit (.int .i64 x1), .lit (.int .i64 y1)], .agg [.lit (.int .i64 x2), .lit (.int .i64 y2)], .agg [.lit (.int .i64 x3), .lit (.int .i64 y3)]] ∧ p = [] ∧ (Lit.int .i64 x0).wf = true ∧ (Lit.int .i64 y0).wf = true ∧ (Lit.int .i64 x1).wf = true ∧ (Lit.int .i64 y1).wf = true ∧ (Lit.int .i64 x2).wf = true ∧ (Lit.int .i64 y2).wf = true ∧ (Lit.int .i64 x3).wf = true ∧ (Lit.int .i64 y3).wf = true := by
  obtain ⟨cs, rfl, hsz⟩ : ∃ cs, v = .agg cs ∧ cs.size = Try.prog.cellsOf 57 := by
    simp only [Value.okWide, Try.underlying57] at hv
    obtain ⟨cs, h1, h2, _⟩ := hv
    exact ⟨cs, h1, h2⟩
  obtain ⟨c0, c1, c2, c3, c4, c5, c6, c7, rfl⟩ := list4' (hsz.trans cellsP4)
  obtain ⟨fuel, hf⟩ := h
  obtain ⟨xs, m, rfl, hx, hl, hn, hi⟩ := DataW.trod_array Try.underlying57 hf
  have q0 := hi 0 (by decide)
  rw [cellsP] at q0
  have q1 := hi 1 (by decide)
  rw [cellsP] at q1
  have q2 := hi 2 (by decide)
  rw [cellsP] at q2
  have q3 := hi 3 (by decide)
  rw [cellsP] at q3
  match xs, hn with
  | [z0, z1, z2, z3], _ =>
    obtain ⟨x0, y0, r0, rfl, rfl, w0, v0⟩ := open_ptc (z := z0) (m := m) (c0 := c0) (c1 := c1) (by simpa [Value.cells] using q0)
    obtain ⟨x1, y1, r1, rfl, rfl, w1, v1⟩ := open_ptc (z := z1) (m := m) (c0 := c2) (c1 := c3) (by simpa [Value.cells] using q1)
    obtain ⟨x2, y2, r2, rfl, rfl, w2, v2⟩ := open_ptc (z := z2) (m := m) (c0 := c4) (c1 := c5) (by simpa [Value.cells] using q2)
    obtain ⟨x3, y3, r3, rfl, rfl, w3, v3⟩ := open_ptc (z := z3) (m := m) (c0 := c6) (c1 := c7) (by simpa [Value.cells] using q3)
    subst r0 r1 r2 r3
    simp at hx
    obtain ⟨rfl, rfl⟩ := hx
    exact ⟨x0, y0, x1, y1, x2, y2, x3, y3, rfl, rfl, rfl, w0, v0, w1, v1, w2, v2, w3, v3⟩
theorem shut_pts4 {x0 y0 x1 y1 x2 y2 x3 y3 : Int} (w0 : (Lit.int .i64 x0).wf = true) (v0 : (Lit.int .i64 y0).wf = true) (w1 : (Lit.int .i64 x1).wf = true) (v1 : (Lit.int .i64 y1).wf = true) (w2 : (Lit.int .i64 x2).wf = true) (v2 : (Lit.int .i64 y2).wf = true) (w3 : (Lit.int .i64 x3).wf = true) (v3 : (Lit.int .i64 y3).wf = true) : DataW.Trod enc Try.prog w base spare held 57 (.agg #[.int .i64 x0, .int .i64 y0, .int .i64 x1, .int .i64 y1, .int .i64 x2, .int .i64 y2, .int .i64 x3, .int .i64 y3]) (.agg [.agg [.lit (.int .i64 x0), .lit (.int .i64 y0)], .agg [.lit (.int .i64 x1), .lit (.int .i64 y1)], .agg [.lit (.int .i64 x2), .lit (.int .i64 y2)], .agg [.lit (.int .i64 x3), .lit (.int .i64 y3)]]) [] :=
  ⟨3, by simp [DataW.trod, Value.cells, Try.underlying57, Try.underlying53, Try.underlying3, cellsP4, cellsP, cellsI, w0, v0, w1, v1, w2, v2, w3, v3, show List.range 4 = [0, 1, 2, 3] from rfl, show List.range 2 = [0, 1] from rfl]⟩
end
theorem cellsP3 : Try.prog.cellsOf 60 = 6 := by kernel_rfl
theorem list3' {α : Type} {cs : Array α} (h : cs.size = 6) : ∃ c0 c1 c2 c3 c4 c5, cs = #[c0, c1, c2, c3, c4, c5] := by
  obtain ⟨l⟩ := cs
  match l, h with
  | [c0, c1, c2, c3, c4, c5], _ => exact ⟨c0, c1, c2, c3, c4, c5, rfl⟩
section
variable {H : Type} {enc : TypeId × Value → H} {w : World} {base b0 : Nat} {spare : Nat → Bool} {held : Bool} {r : Reach} {v : Value} {d : DataW H} {p : List MemPlace}
theorem open_pts3 (hv : Value.okWide Try.prog w r b0 60 v) (h : DataW.Trod enc Try.prog w base spare held 60 v d p) :
    ∃ x0 y0 x1 y1 x2 y2 : Int, v = .agg #[.int .i64 x0, .int .i64 y0, .int .i64 x1, .int .i64 y1, .int .i64 x2, .int .i64 y2] ∧ d = .agg [.agg [.lit (.int .i64 x0), .lit (.int .i64 y0)], .agg [.lit (.int .i64 x1), .lit (.int .i64 y1)], .agg [.lit (.int .i64 x2), .lit (.int .i64 y2)]] ∧ p = [] ∧ (Lit.int .i64 x0).wf = true ∧ (Lit.int .i64 y0).wf = true ∧ (Lit.int .i64 x1).wf = true ∧ (Lit.int .i64 y1).wf = true ∧ (Lit.int .i64 x2).wf = true ∧ (Lit.int .i64 y2).wf = true := by
  obtain ⟨cs, rfl, hsz⟩ : ∃ cs, v = .agg cs ∧ cs.size = Try.prog.cellsOf 60 := by
    simp only [Value.okWide, Try.underlying60] at hv
    obtain ⟨cs, h1, h2, _⟩ := hv
    exact ⟨cs, h1, h2⟩
  obtain ⟨c0, c1, c2, c3, c4, c5, rfl⟩ := list3' (hsz.trans cellsP3)
  obtain ⟨fuel, hf⟩ := h
  obtain ⟨xs, m, rfl, hx, hl, hn, hi⟩ := DataW.trod_array Try.underlying60 hf
  have q0 := hi 0 (by decide)
  rw [cellsP] at q0
  have q1 := hi 1 (by decide)
  rw [cellsP] at q1
  have q2 := hi 2 (by decide)
  rw [cellsP] at q2
  match xs, hn with
  | [z0, z1, z2], _ =>
    obtain ⟨x0, y0, r0, rfl, rfl, w0, v0⟩ := open_ptc (z := z0) (m := m) (c0 := c0) (c1 := c1) (by simpa [Value.cells] using q0)
    obtain ⟨x1, y1, r1, rfl, rfl, w1, v1⟩ := open_ptc (z := z1) (m := m) (c0 := c2) (c1 := c3) (by simpa [Value.cells] using q1)
    obtain ⟨x2, y2, r2, rfl, rfl, w2, v2⟩ := open_ptc (z := z2) (m := m) (c0 := c4) (c1 := c5) (by simpa [Value.cells] using q2)
    subst r0 r1 r2
    simp at hx
    obtain ⟨rfl, rfl⟩ := hx
    exact ⟨x0, y0, x1, y1, x2, y2, rfl, rfl, rfl, w0, v0, w1, v1, w2, v2⟩
theorem shut_pts3 {x0 y0 x1 y1 x2 y2 : Int} (w0 : (Lit.int .i64 x0).wf = true) (v0 : (Lit.int .i64 y0).wf = true) (w1 : (Lit.int .i64 x1).wf = true) (v1 : (Lit.int .i64 y1).wf = true) (w2 : (Lit.int .i64 x2).wf = true) (v2 : (Lit.int .i64 y2).wf = true) : DataW.Trod enc Try.prog w base spare held 60 (.agg #[.int .i64 x0, .int .i64 y0, .int .i64 x1, .int .i64 y1, .int .i64 x2, .int .i64 y2]) (.agg [.agg [.lit (.int .i64 x0), .lit (.int .i64 y0)], .agg [.lit (.int .i64 x1), .lit (.int .i64 y1)], .agg [.lit (.int .i64 x2), .lit (.int .i64 y2)]]) [] :=
  ⟨3, by simp [DataW.trod, Value.cells, Try.underlying60, Try.underlying53, Try.underlying3, cellsP3, cellsP, cellsI, w0, v0, w1, v1, w2, v2, show List.range 3 = [0, 1, 2] from rfl, show List.range 2 = [0, 1] from rfl]⟩
end

end Go.Proofs.Ytggbdfnoehienaa
