/- From a walk to a given row: what the laws of meshes need. -/
import Derived.Test.YtbanlhlggkdanaaN3
import Derived.Laws.IdiomArrays
import Derived.OpenShut
import Derived.ProofKit
import Derived.Lib.SmallJoins
import Derived.Below
import Derived.ChangeSame
set_option linter.unusedSimpArgs false
set_option linter.unusedVariables false
namespace Go.Proofs.Ytbanlhlggkdanaa
open Go.ChangeShapes Go.WideShapes Go.ChangeAt Go.RowKit Go.Joins

section
variable {H : Type} {enc : TypeId × Value → H} {P : Program}
theorem post_of_below' {f : Func} {s : ChangeSpec} {apart fresh handsOn again : Bool} {W W' : World} {args : Array Value} {v : Value} {ds gs : List (DataW H)} {before pa pv : List MemPlace}
    (hW : DataW.Whole enc P f.params.toList s.vars apart W args.toList ds gs before)
    (hres : ∀ (b : Nat) (sp : Nat → Bool) (hd : Bool), DataW.TrodAll enc P W' b sp hd f.resultTypes.toList (v.resultList f.resultTypes.size) (s.fn H (ds ++ gs)).results [])
    (hargs : ∀ sp : Nat → Bool, (∀ p ∈ before, sp p.block = true) → DataW.TrodAll enc P W' 0 sp true f.params.toList args.toList (s.fn H (ds ++ gs)).args pa)
    (hvars : ∀ sp : Nat → Bool, (∀ p ∈ before, sp p.block = true) → DataW.TrodVars enc P W' sp s.vars (s.fn H (ds ++ gs)).vars pv)
    (hps : before = pa ++ pv) (hb : Below W.heap.size W W')
    (hok : ∀ (j : Nat) (t : TypeId) (r : Value), f.resultTypes[j]? = some t → (v.resultList f.resultTypes.size)[j]? = some r → Value.okWide P W' .any 0 t r) :
    s.post enc P f apart fresh handsOn again W args v W' := by
  have hlt : ∀ p ∈ before, p.block < W.heap.size := fun p hp => hW.lt p hp
  have hold : ∀ p ∈ before, (fun b => decide (b < W.heap.size)) p.block = true := fun p hp => by simpa using hlt p hp
  refine ⟨ds, gs, before, [], pa, pv, hW, hres _ _ _, hargs _ hold, hvars _ hold, World.keptBut_mono (fun p hp => ⟨hp, ?_⟩) (hb.frame (· ∈ before)), fun _ => ?_⟩
  · rw [hps, List.mem_append] at hp
    exact Or.inr hp
  · obtain ⟨_, _, _, _, _, hz, hn⟩ := hW
    refine ⟨hok, _, _, ([] ++ pa) ++ pv, ⟨[] ++ pa, pv, trodAll_append (hargs _ (fun _ _ => rfl)) (hres _ _ _), hvars _ (fun _ _ => rfl), rfl, ?_, ?_⟩, ?_⟩
    · intro b off hp
      have hin : MemPlace.cell b off ∈ before := by rw [hps]; simpa using hp
      rw [hb.frozen (hlt _ hin)]
      exact hz b off hin
    · intro ha
      have := hn ha
      rw [hps] at this
      simpa using this
    · intro p hp _
      rw [hps]
      simpa using hp
end

/-- a contract of a law whose arguments are values -/
theorem Tri.law {P : Program} {f : FuncId} {args : List Value} {v : Value} (h : Tri P f args [] [] (Ret0 v)) (w : World) :
    Calls P f args.toArray w fun e w' => e = .returned v ∧ Below w.heap.size w w' := by
  refine (h.2 w (fun _ => False) (fun _ => False) (fun _ h => h) (fun r hr => nomatch hr) (fun _ h _ => h) (fun _ h => h.elim)).mono ?_
  rintro e w' ⟨v', μ', φ', he, ⟨rfl, rfl, rfl⟩, hk, -⟩
  exact ⟨he, hk.below (fun _ h => h)⟩

theorem Try.own : ownKnob Try.prog.godebug = none := by kernel_rfl
theorem cellsI : Try.prog.cellsOf 3 = 1 := by kernel_rfl
theorem cellsP : Try.prog.cellsOf 23 = 2 := by kernel_rfl
theorem i64_b {n : Int} (h : (Lit.int .i64 n).wf = true) : I64 n := by
  simp [Lit.wf, IntKind.min, IntKind.max] at h
  simp [IntKind.signed, IntKind.bits] at h
  unfold I64
  omega
section
variable {H : Type} {enc : TypeId × Value → H} {w : World} {base b0 : Nat} {spare : Nat → Bool} {held : Bool} {r : Reach} {v : Value} {d : DataW H} {p : List MemPlace}
set_option maxRecDepth 100000 in
theorem open_pt (hv : Value.okWide Try.prog w r b0 23 v) (h : DataW.Trod enc Try.prog w base spare held 23 v d p) :
    ∃ x y : Int, v = .agg #[.int .i64 x, .int .i64 y] ∧ d = .agg [.lit (.int .i64 x), .lit (.int .i64 y)] ∧ p = [] ∧ (Lit.int .i64 x).wf = true ∧ (Lit.int .i64 y).wf = true := by
  obtain ⟨c0, c1, y0, y1, m, rfl, rfl, rfl, hy0, hy1⟩ := open_agg2 Try.underlying23 (by kernel_rfl) cellsP hv h
  obtain ⟨a, e0, rfl, wa⟩ := DataW.trod_int Try.underlying3 hy0
  obtain ⟨b, e1, rfl, wb⟩ := DataW.trod_int Try.underlying3 hy1
  simp at e0 e1
  subst e0 e1
  exact ⟨a, b, rfl, rfl, rfl, wa, wb⟩
set_option maxRecDepth 100000 in
theorem shut_pt {x y : Int} (wa : (Lit.int .i64 x).wf = true) (wb : (Lit.int .i64 y).wf = true) : DataW.Trod enc Try.prog w base spare held 23 (.agg #[.int .i64 x, .int .i64 y]) (.agg [.lit (.int .i64 x), .lit (.int .i64 y)]) [] :=
  shut_agg2 (y0 := (.lit (.int .i64 x), [])) (y1 := (.lit (.int .i64 y), [])) Try.underlying23 (by kernel_rfl) cellsP ⟨1, by simp [DataW.trod, Try.underlying3, wa]⟩ ⟨1, by simp [DataW.trod, Try.underlying3, wb]⟩
end
set_option maxRecDepth 100000 in
/-- a point's two cells, read -/
theorem open_ptc {H : Type} {enc : TypeId × Value → H} {w : World} {base m : Nat} {spare : Nat → Bool} {held : Bool} {c0 c1 : Value} {z : DataW H × List MemPlace} (h : DataW.trod enc Try.prog w base spare held m 23 [c0, c1] = some z) :
    ∃ x y : Int, z = (.agg [.lit (.int .i64 x), .lit (.int .i64 y)], []) ∧ c0 = .int .i64 x ∧ c1 = .int .i64 y ∧ (Lit.int .i64 x).wf = true ∧ (Lit.int .i64 y).wf = true := by
  obtain ⟨y0, y1, n, hx, _, h0, h1⟩ := trod_struct2 Try.underlying23 h
  have k : Try.prog.cellsOf 3 = 1 := cellsI
  simp only [k] at h0 h1
  obtain ⟨a, e0, q0, wa⟩ := DataW.trod_int (fuel := n) (cs := [c0]) Try.underlying3 (by simpa using h0)
  obtain ⟨b, e1, q1, wb⟩ := DataW.trod_int (fuel := n) (cs := [c1]) Try.underlying3 (by simpa using h1)
  simp at e0 e1
  subst e0 e1 q0 q1
  exact ⟨a, b, hx, rfl, rfl, wa, wb⟩
theorem cellsP3 : Try.prog.cellsOf 24 = 6 := by kernel_rfl
theorem list3' {α : Type} {cs : Array α} (h : cs.size = 6) : ∃ c0 c1 c2 c3 c4 c5, cs = #[c0, c1, c2, c3, c4, c5] := by
  obtain ⟨l⟩ := cs
  match l, h with
  | [c0, c1, c2, c3, c4, c5], _ => exact ⟨c0, c1, c2, c3, c4, c5, rfl⟩
section
variable {H : Type} {enc : TypeId × Value → H} {w : World} {base b0 : Nat} {spare : Nat → Bool} {held : Bool} {r : Reach} {v : Value} {d : DataW H} {p : List MemPlace}
set_option maxRecDepth 100000 in
theorem open_pts3 (hv : Value.okWide Try.prog w r b0 24 v) (h : DataW.Trod enc Try.prog w base spare held 24 v d p) :
    ∃ x0 y0 x1 y1 x2 y2 : Int, v = .agg #[.int .i64 x0, .int .i64 y0, .int .i64 x1, .int .i64 y1, .int .i64 x2, .int .i64 y2] ∧ d = .agg [.agg [.lit (.int .i64 x0), .lit (.int .i64 y0)], .agg [.lit (.int .i64 x1), .lit (.int .i64 y1)], .agg [.lit (.int .i64 x2), .lit (.int .i64 y2)]] ∧ p = [] ∧ (Lit.int .i64 x0).wf = true ∧ (Lit.int .i64 y0).wf = true ∧ (Lit.int .i64 x1).wf = true ∧ (Lit.int .i64 y1).wf = true ∧ (Lit.int .i64 x2).wf = true ∧ (Lit.int .i64 y2).wf = true := by
  obtain ⟨cs, rfl, hsz⟩ : ∃ cs, v = .agg cs ∧ cs.size = Try.prog.cellsOf 24 := by
    simp only [Value.okWide, Try.underlying24] at hv
    obtain ⟨cs, h1, h2, _⟩ := hv
    exact ⟨cs, h1, h2⟩
  obtain ⟨c0, c1, c2, c3, c4, c5, rfl⟩ := list3' (hsz.trans cellsP3)
  obtain ⟨fuel, hf⟩ := h
  obtain ⟨xs, m, rfl, hx, hl, hn, hi⟩ := DataW.trod_array Try.underlying24 hf
  have q0 := hi 0 (by decide)
  rw [cellsP] at q0
  have q1 := hi 1 (by decide)
  rw [cellsP] at q1
  have q2 := hi 2 (by decide)
  rw [cellsP] at q2
  match xs, hn with
  | [z0, z1, z2], _ =>
    obtain ⟨x0, y0, r0, rfl, rfl, w0, v0⟩ := open_ptc (z := z0) (m := m) (c0 := c0) (c1 := c1) (by simpa [Value.cells] using q0)
    obtain ⟨x1, y1, r1, rfl, rfl, w1, v1⟩ := open_ptc (z := z1) (m := m) (c0 := c2) (c1 := c3) (by simpa [Value.cells] using q1)
    obtain ⟨x2, y2, r2, rfl, rfl, w2, v2⟩ := open_ptc (z := z2) (m := m) (c0 := c4) (c1 := c5) (by simpa [Value.cells] using q2)
    subst r0 r1 r2
    simp at hx
    obtain ⟨rfl, rfl⟩ := hx
    exact ⟨x0, y0, x1, y1, x2, y2, rfl, rfl, rfl, w0, v0, w1, v1, w2, v2⟩
set_option maxRecDepth 100000 in
theorem shut_pts3 {x0 y0 x1 y1 x2 y2 : Int} (w0 : (Lit.int .i64 x0).wf = true) (v0 : (Lit.int .i64 y0).wf = true) (w1 : (Lit.int .i64 x1).wf = true) (v1 : (Lit.int .i64 y1).wf = true) (w2 : (Lit.int .i64 x2).wf = true) (v2 : (Lit.int .i64 y2).wf = true) : DataW.Trod enc Try.prog w base spare held 24 (.agg #[.int .i64 x0, .int .i64 y0, .int .i64 x1, .int .i64 y1, .int .i64 x2, .int .i64 y2]) (.agg [.agg [.lit (.int .i64 x0), .lit (.int .i64 y0)], .agg [.lit (.int .i64 x1), .lit (.int .i64 y1)], .agg [.lit (.int .i64 x2), .lit (.int .i64 y2)]]) [] :=
  ⟨3, by simp [DataW.trod, Value.cells, Try.underlying24, Try.underlying23, Try.underlying3, cellsP3, cellsP, cellsI, w0, v0, w1, v1, w2, v2, show List.range 3 = [0, 1, 2] from rfl, show List.range 2 = [0, 1] from rfl]⟩
end

end Go.Proofs.Ytbanlhlggkdanaa
