/- Pointers that are looked at, and arrays inside what is a fact. -/
import Derived.Test.YtbanlhlggkdanaaRnd
import Derived.Test.YtbanlhlggkdanaaQ2
import Derived.LoopN
set_option linter.unusedSimpArgs false
set_option linter.unusedVariables false
namespace Go.Proofs.Ytbanlhlggkdanaa
open Go.RowKit

/-- a store that fills a whole block -/
theorem wr_all {cs : Array Value} {vs : List Value} (h : vs.length = cs.size) : wr cs 0 vs = vs.toArray := by
  rw [← Array.toList_inj, wr_list vs cs 0 (by omega)]
  simp [h]

section
variable {E : Env} {ty : TypeId} {σ : List (Nat × Value)} {μ φ : List Res}
theorem YJ_nilCheck {x : Operand} {ad : Addr} (hx : oev σ x = some (.pointer (some ad))) : YJ E (.nilCheck x) ty σ μ φ (.pointer (some ad)) := fun ac w _ _ _ _ hs _ _ => by
  simp only [execOp, hs.ev hx]
  simp
/-- an array's element, wherever the array lies -/
theorem YJ_ixArrP {xt e : TypeId} {x y : Operand} {ad : Addr} {n size : Nat} {k : IntKind} {i : Int} (hx : oev σ x = some (.pointer (some ad))) (hy : oev σ y = some (.int k i)) (he : arrt E.P xt = some (n, e, size)) (h0 : 0 ≤ i) (h1 : i < n) :
    YJ E (.indexAddr xt x y) ty σ μ φ (.pointer (some (ad.add (i.toNat * size)))) := fun ac w _ _ _ _ hs _ _ => by
  unfold arrt at he
  cases hu : E.P.underlying xt with
  | none => rw [hu] at he; simp at he
  | some d =>
    rw [hu] at he
    cases d <;> simp at he
    rename_i n' e'
    obtain ⟨i', hi, rfl, rfl, rfl⟩ := he
    simp only [execOp, hs.ev hx, hs.ev hy]
    simp [Instr.indexAt, asIntOf, run_underlying hu, sizeOf, typeInfo, hi, h0, h1, Instr.sureAddr]
/-- a load out of a fact, at an offset that is reckoned -/
theorem YJ_loadFactP {t : TypeId} {x : Operand} {A : Option Addr} {ad : Addr} {n j size : Nat} {xs : List Value} {v : Value} (hx : oev σ x = some (.pointer (some ad))) (ha : ad = (adr A).add j) (ht : tyi E.P t = some (false, 1)) (hm : sliceR size A n xs ∈ φ) (hc : xs[j]? = some v) :
    YJ E (.load t x) ty σ μ φ v := by subst ha; exact YJ_loadFact hx ht hm hc
theorem YJ_loadFactNP {t : TypeId} {x : Operand} {A : Option Addr} {ad : Addr} {n j size m : Nat} {xs vs : List Value} (hx : oev σ x = some (.pointer (some ad))) (ha : ad = (adr A).add j) (ht : tyi E.P t = some (true, m)) (hm : sliceR size A n xs ∈ φ) (hc : (xs.drop j).take m = vs) (hl : vs.length = m) :
    YJ E (.load t x) ty σ μ φ (.agg vs.toArray) := by subst ha; exact YJ_loadFactN hx ht hm hc hl
end
/-! ### a loop of a known number of rounds, walked round by round -/
section
variable {E : Env} {Q : Qt} {σ : List (Nat × Value)} {μ φ : List Res}
def CN (n : Nat) (E : Env) (Q : Qt) (c : Code) (σ : List (Nat × Value)) (μ φ : List Res) : Prop := ∀ a w, OKa E σ a → OKm E μ φ w → Code.rounds E.P c Q n a w
theorem CJ_loopN {c : Code} (n : Nat) (h : CN n E Q c σ μ φ) : CJ E Q (.loop c) σ μ φ := fun a w ha hm => wp_loop_rounds n (h a w ha hm)
theorem CN_succ {c : Code} {n : Nat} (h : CJ E (Exit.then (Code.rounds E.P c Q n) Q) c σ μ φ) : CN (n + 1) E Q c σ μ φ := fun a w ha hm => h a w ha hm
theorem QJ_thenN {c : Code} {n : Nat} (h : CN n E Q c σ μ φ) : QJ E (Exit.then (Code.rounds E.P c Q n) Q) .normal σ μ φ := fun a w ha hm => h a w ha hm
end
/-- a triangle as the program keeps it: points, what lies across, faults -/
structure Tr where
  v0 : Int
  v1 : Int
  v2 : Int
  n0 : Int
  n1 : Int
  n2 : Int
  f0 : Bool
  f1 : Bool
  f2 : Bool
def Tr.cells (t : Tr) : List Value := [.int .i64 t.v0, .int .i64 t.v1, .int .i64 t.v2, .int .i64 t.n0, .int .i64 t.n1, .int .i64 t.n2, .bool t.f0, .bool t.f1, .bool t.f2]
def trCells (l : List Tr) : List Value := l.flatMap Tr.cells
theorem trCells_get : ∀ {l : List Tr} {i j : Nat} {t : Tr}, l[i]? = some t → j < 9 → (trCells l)[i * 9 + j]? = t.cells[j]?
  | [], i, _, t, h, _ => by simp at h
  | u :: l, 0, j, t, h, hj => by
    simp at h
    subst h
    simp only [trCells, List.flatMap_cons, Nat.zero_mul, Nat.zero_add]
    exact List.getElem?_append_left (by simpa [Tr.cells] using hj)
  | u :: l, i + 1, j, t, h, hj => by
    have := trCells_get (l := l) (i := i) (j := j) (t := t) (by simpa using h) hj
    rw [← this, Nat.succ_mul]
    simp only [trCells, List.flatMap_cons]
    rw [List.getElem?_append_right (by simp [Tr.cells]; omega)]
    congr 1
    simp [Tr.cells]; omega
theorem trCells_row : ∀ {l : List Tr} {i : Nat} {t : Tr}, l[i]? = some t → ((trCells l).drop (i * 9)).take 9 = t.cells
  | [], i, t, h => by simp at h
  | u :: l, 0, t, h => by
    simp at h
    subst h
    simp [trCells, Tr.cells]
  | u :: l, i + 1, t, h => by
    have := trCells_row (l := l) (i := i) (t := t) (by simpa using h)
    rw [← this, Nat.succ_mul]
    simp [trCells, Tr.cells]
/-- a mesh that is only read: its struct, its points, its triangles -/
structure Mh where
  P : Option Addr
  cp : Nat
  T : Option Addr
  ct : Nat
  F : Option Addr
  nf : Nat
  cf : Nat
  A : Option Addr
  na : Nat
  ca : Nat
def meshFs (B : Nat) (h : Mh) (pts : List (Int × Int)) (tris : List Tr) : List Res :=
  [sliceR 4 (some ⟨B, 0, none⟩) 1 [.slice h.P pts.length h.cp, .slice h.T tris.length h.ct, .slice h.F h.nf h.cf, .slice h.A h.na h.ca], sliceR 2 h.P pts.length (ptCells pts), sliceR 9 h.T tris.length (trCells tris)]
end Go.Proofs.Ytbanlhlggkdanaa
