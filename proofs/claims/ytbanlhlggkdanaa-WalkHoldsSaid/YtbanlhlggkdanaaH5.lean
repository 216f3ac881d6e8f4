/- The walk of what is right of a place. -/
import Derived.Test.YtbanlhlggkdanaaH4
set_option linter.unusedSimpArgs false
set_option linter.unusedVariables false
namespace Go.Proofs.Ytbanlhlggkdanaa
open Go.RowKit




def hasV (t : Tr) (v : Int) : Prop := t.v0 = v ∨ t.v1 = v ∨ t.v2 = v
instance (t : Tr) (v : Int) : Decidable (hasV t v) := inferInstanceAs (Decidable (_ ∨ _))
/-- what one edge of a triangle adds: at which point, on which edge -/
def rStep (pts : List (Int × Int)) (p : Int × Int) (t : Tr) (s : Int × Int × Int) (k : Nat) : Int × Int × Int :=
  (if ptAt pts (t.v ((k + 1) % 3)) = p then t.v ((k + 1) % 3) else s.1,
   if edge pts t k p ∧ Btw p.1 p.2 (ptAt pts (t.v ((k + 1) % 3))).1 (ptAt pts (t.v ((k + 1) % 3))).2 (ptAt pts (t.v ((k + 2) % 3))).1 (ptAt pts (t.v ((k + 2) % 3))).2 then (min (t.v ((k + 1) % 3)) (t.v ((k + 2) % 3)), max (t.v ((k + 1) % 3)) (t.v ((k + 2) % 3))) else s.2)
def rTri (pts : List (Int × Int)) (p : Int × Int) (s : Bool × Int × Int × Int) (x : Nat × Tr) : Bool × Int × Int × Int :=
  (s.1 || decide (hld pts x.2 p), [0, 1, 2].foldl (rStep pts p x.2) s.2)
def rGhost (pts : List (Int × Int)) (p : Int × Int) (t : Tr) : Bool :=
  if t.v0 = -1 then decide (0 < A2 (ptAt pts t.v1).1 (ptAt pts t.v1).2 (ptAt pts t.v2).1 (ptAt pts t.v2).2 p.1 p.2)
  else if t.v1 = -1 then decide (0 < A2 (ptAt pts t.v2).1 (ptAt pts t.v2).2 (ptAt pts t.v0).1 (ptAt pts t.v0).2 p.1 p.2)
  else if t.v2 = -1 then decide (0 < A2 (ptAt pts t.v0).1 (ptAt pts t.v0).2 (ptAt pts t.v1).1 (ptAt pts t.v1).2 p.1 p.2)
  else false
def rEnd (pts : List (Int × Int)) (tris : List Tr) (p : Int × Int) (x : Pl) (t : Tr) (s : Bool × Int × Int × Int) : Bool :=
  if s.1 = false then (if x.1 = 3 ∧ ¬ isReal tris x.2.1 ∧ x.2.2.1 = 0 ∧ x.2.2.2 = 0 then rGhost pts p t else false)
  else if ¬ isReal tris x.2.1 then false
  else if 0 ≤ s.2.1 then decide (x.1 = 2 ∧ x.2.2.1 = s.2.1 ∧ x.2.2.2 = 0 ∧ hasV t s.2.1)
  else if ¬ (s.2.2.1 = 0 ∧ s.2.2.2 = 0) then decide (x.1 = 1 ∧ (x.2.2.1 = s.2.2.1 ∧ x.2.2.2 = s.2.2.2) ∧ hasV t x.2.2.1 ∧ hasV t x.2.2.2)
  else decide (x.1 = 0 ∧ x.2.2.1 = 0 ∧ x.2.2.2 = 0 ∧ 0 < A2 (ptAt pts t.v0).1 (ptAt pts t.v0).2 (ptAt pts t.v1).1 (ptAt pts t.v1).2 p.1 p.2 ∧ 0 < A2 (ptAt pts t.v1).1 (ptAt pts t.v1).2 (ptAt pts t.v2).1 (ptAt pts t.v2).2 p.1 p.2 ∧ 0 < A2 (ptAt pts t.v2).1 (ptAt pts t.v2).2 (ptAt pts t.v0).1 (ptAt pts t.v0).2 p.1 p.2)
/-- is a place right, by the document? -/
def rght (pts : List (Int × Int)) (tris : List Tr) (p : Int × Int) (x : Pl) : Bool :=
  if x.2.1 < 0 then false else match tris[x.2.1.toNat]? with
  | none => false
  | some t => rEnd pts tris p x t ((reals tris).foldl (rTri pts p) (false, -1, 0, 0))
/-- a ghost's points are points of the mesh -/
def gOk (pts : List (Int × Int)) (tris : List Tr) : Prop := ∀ t, t ∈ tris → (t.v0 = -1 → (0 ≤ t.v1 ∧ t.v1 < pts.length) ∧ 0 ≤ t.v2 ∧ t.v2 < pts.length) ∧ (t.v1 = -1 → (0 ≤ t.v2 ∧ t.v2 < pts.length) ∧ 0 ≤ t.v0 ∧ t.v0 < pts.length) ∧ (t.v2 = -1 → (0 ≤ t.v0 ∧ t.v0 < pts.length) ∧ 0 ≤ t.v1 ∧ t.v1 < pts.length)
theorem tm3 {k j : Nat} (hk : k < 3) (hj : j < 3) : ((k : Int) + (j : Int)).tmod 3 = (((k + j) % 3 : Nat) : Int) := by
  match k, hk, j, hj with
  | 0, _, 0, _ => rfl
  | 0, _, 1, _ => rfl
  | 0, _, 2, _ => rfl
  | 1, _, 0, _ => rfl
  | 1, _, 1, _ => rfl
  | 1, _, 2, _ => rfl
  | 2, _, 0, _ => rfl
  | 2, _, 1, _ => rfl
  | 2, _, 2, _ => rfl
theorem v_get {t : Tr} {j : Nat} (hj : j < 3) : (#[.int .i64 t.v0, .int .i64 t.v1, .int .i64 t.v2, .int .i64 t.n0, .int .i64 t.n1, .int .i64 t.n2, .bool t.f0, .bool t.f1, .bool t.f2] : Array Value)[0 + ((j : Nat) : Int).toNat * 1]? = some (.int .i64 (t.v j)) := by
  match j, hj with
  | 0, _ => rfl
  | 1, _ => rfl
  | 2, _ => rfl
theorem ok_v {t : Tr} {n j : Nat} (h : t.ok n) (hj : j < 3) : 0 ≤ t.v j ∧ t.v j < n := by
  obtain ⟨h0, h1, h2⟩ := h
  match j, hj with
  | 0, _ => exact h0
  | 1, _ => exact h1
  | 2, _ => exact h2
theorem sgn_pos {n : Int} : 0 < sgn n ↔ 0 < n := by have := sgn_cases n; omega
theorem sgn_one {n : Int} : sgn n = 1 ↔ 0 < n := by have := sgn_cases n; omega
theorem eqs_fn (f : Fn) (cs bs : Array Value) (x y : Operand) (w : World) :
    (do eqGuard .eql 32 x y (.func f cs bs) .nilFunc; binOp .eql 32 (.func f cs bs) .nilFunc : Sem Value).run Try.prog w = .ok (.bool false) w := by
  have h : (match Try.prog.underlying 32 with | some (.func _ _ _) => true | _ => false) = true := by kernel_rfl
  split at h
  · rename_i a b c hu
    simp [go_sem, eqGuard, binOp, Op.equal]
    rw [show Op.maxDepth = 9999 + 1 from rfl]
    generalize 9999 = dd
    simp [Op.equalIn, run_underlying hu]
  · cases h


end Go.Proofs.Ytbanlhlggkdanaa
