/- An own mesh: what it is, and the walks of what changes it. -/
import Derived.Test.YtbanlhlggkdanaaG4
import Derived.Test.YtbanlhlggkdanaaGrw
set_option linter.unusedSimpArgs false
set_option linter.unusedVariables false
namespace Go.Proofs.Ytbanlhlggkdanaa
open Go.RowKit

theorem ent_49 : Enter Try.prog 49 = true := by kernel_rfl
theorem fld_37_2 : fld Try.prog 37 2 = some 6 := by kernel_rfl
theorem arrt_35 : arrt Try.prog 35 = some (3, 4, 1) := by kernel_rfl
theorem ent_34 : Enter Try.prog 34 = true := by kernel_rfl
theorem lay_34 : lay1 Try.prog 34 = some [.int .i64 0, .int .i64 0, .int .i64 0] := by kernel_rfl
theorem layn_37 : layN Try.prog 37 = some ([.int .i64 0, .int .i64 0, .int .i64 0, .int .i64 0, .int .i64 0, .int .i64 0, .bool false, .bool false, .bool false], [(0, 3), (3, 3), (6, 3)]) := by kernel_rfl
theorem fld_57_2 : fld Try.prog 57 2 = some 2 := by kernel_rfl
theorem tyi_55 : tyi Try.prog 55 = some (false, 1) := by kernel_rfl
theorem ent_30 : Enter Try.prog 30 = true := by kernel_rfl
theorem fld_57_3 : fld Try.prog 57 3 = some 3 := by kernel_rfl
theorem ulen_26 : ((#[26] : Array TypeId)[0]?).bind Try.prog.underlying = some (.slice (Try.prog.elem ((#[26] : Array TypeId).getD 0 0))) := by kernel_rfl


/-- a mesh: points, triangles, the numbers that are free, a triangle of each point -/
structure MD where
  pts : List (Int × Int)
  tris : List Tr
  free : List Int
  ats : List Int
structure Hd where
  P : Option Addr
  cP : Nat
  T : Option Addr
  cT : Nat
  F : Option Addr
  cF : Nat
  A : Option Addr
  cA : Nat
def meshL (B : Nat) (M : MD) (h : Hd) : List Res := [cellsR B #[.slice h.P M.pts.length h.cP, .slice h.T M.tris.length h.cT, .slice h.F M.free.length h.cF, .slice h.A M.ats.length h.cA] 57,
  rowR 23 2 h.P M.pts.length h.cP (ptCells M.pts), rowR 37 9 h.T M.tris.length h.cT (trCells M.tris), rowR 3 1 h.F M.free.length h.cF (Iv M.free), rowR 3 1 h.A M.ats.length h.cA (Iv M.ats)]
def meshR (B : Nat) (M : MD) : Res := exR (meshL B M)
/-- its parts, while it is changed -/
def partL (B : Nat) (P : Option Addr) (nP cP : Nat) (xP : List Value) (T : Option Addr) (nT cT : Nat) (xT : List Value) (F : Option Addr) (nF cF : Nat) (xF : List Value) (A : Option Addr) (nA cA : Nat) (xA : List Value) : List Res :=
  [cellsR B #[.slice P nP cP, .slice T nT cT, .slice F nF cF, .slice A nA cA] 57, rowR 23 2 P nP cP xP, rowR 37 9 T nT cT xT, rowR 3 1 F nF cF xF, rowR 3 1 A nA cA xA]
section
variable {E : Env} {Q : Qt} {σ : List (Nat × Value)} {μ φ μr : List Res} {ops : Array Oper} {rest : List Oper} {cd : Code} {ex : Exit} {B : Nat} {P : Option Addr} {nP cP : Nat} {xP : List Value} {T : Option Addr} {nT cT : Nat} {xT : List Value} {F : Option Addr} {nF cF : Nat} {xF : List Value} {A : Option Addr} {nA cA : Nat} {xA : List Value}
theorem OKm.closeMesh {w : World} (M : MD) (h : OKm E μ φ w) (hp : List.Perm μ (partL B P nP cP xP T nT cT xT F nF cF xF A nA cA xA ++ μr)) (h1 : nP = M.pts.length ∧ xP = ptCells M.pts) (h2 : nT = M.tris.length ∧ xT = trCells M.tris) (h3 : nF = M.free.length ∧ xF = Iv M.free) (h4 : nA = M.ats.length ∧ xA = Iv M.ats) : OKm E (meshR B M :: μr) φ w := by
  obtain ⟨rfl, rfl⟩ := h1; obtain ⟨rfl, rfl⟩ := h2; obtain ⟨rfl, rfl⟩ := h3; obtain ⟨rfl, rfl⟩ := h4
  exact OKm.closeEx (f := meshL B M) (i := ⟨P, cP, T, cT, F, cF, A, cA⟩) (h.weak (μr := []) (by rw [List.append_nil]; exact hp) (fun _ h => h))
theorem QJ_closeMesh (M : MD) (hp : List.Perm μ (partL B P nP cP xP T nT cT xT F nF cF xF A nA cA xA ++ μr)) (h1 : nP = M.pts.length ∧ xP = ptCells M.pts) (h2 : nT = M.tris.length ∧ xT = trCells M.tris) (h3 : nF = M.free.length ∧ xF = Iv M.free) (h4 : nA = M.ats.length ∧ xA = Iv M.ats)
    (h : QJ E Q ex σ (meshR B M :: μr) φ) : QJ E Q ex σ μ φ := fun a w ha hm => h a w ha (hm.closeMesh M hp h1 h2 h3 h4)
theorem CJ_closeMesh (M : MD) (hp : List.Perm μ (partL B P nP cP xP T nT cT xT F nF cF xF A nA cA xA ++ μr)) (h1 : nP = M.pts.length ∧ xP = ptCells M.pts) (h2 : nT = M.tris.length ∧ xT = trCells M.tris) (h3 : nF = M.free.length ∧ xF = Iv M.free) (h4 : nA = M.ats.length ∧ xA = Iv M.ats)
    (h : CJ E Q cd σ (meshR B M :: μr) φ) : CJ E Q cd σ μ φ := fun a w ha hm => h a w ha (hm.closeMesh M hp h1 h2 h3 h4)
theorem LJ_closeMesh (M : MD) (hp : List.Perm μ (partL B P nP cP xP T nT cT xT F nF cF xF A nA cA xA ++ μr)) (h1 : nP = M.pts.length ∧ xP = ptCells M.pts) (h2 : nT = M.tris.length ∧ xT = trCells M.tris) (h3 : nF = M.free.length ∧ xF = Iv M.free) (h4 : nA = M.ats.length ∧ xA = Iv M.ats)
    (h : LJ E Q ops rest σ (meshR B M :: μr) φ) : LJ E Q ops rest σ μ φ := fun a w ha hm => h a w ha (hm.closeMesh M hp h1 h2 h3 h4)
end
theorem addr_eq {g q off : Nat} (h : q = off) : (⟨g, q, none⟩ : Addr) = (adr (some ⟨g, 0, none⟩)).add off := by
  subst h
  show _ = (⟨g, 0, none⟩ : Addr).add q
  rw [Addr.add_lit, Nat.zero_add]
theorem trCells_len : ∀ (l : List Tr), (trCells l).length = l.length * 9
  | [] => rfl
  | t :: l => by
    have := trCells_len l
    simp only [trCells, List.flatMap_cons, List.length_append, List.length_cons, Tr.cells, List.length_nil] at *
    omega
theorem one_set {xs : List Value} {off : Nat} {v : Value} (h : off < xs.length) : xs.take off ++ ([v] ++ xs.drop (off + 1)) = xs.set off v := by
  rw [List.set_eq_take_append_cons_drop, if_pos h]
  rfl
theorem trCells_modify : ∀ {l : List Tr} {k j : Nat} {v : Value} {f : Tr → Tr}, (∀ t, (f t).cells = t.cells.set j v) → j < 9 → (trCells l).set (k * 9 + j) v = trCells (l.modify k f)
  | [], k, j, v, f, _, _ => by simp [trCells]
  | t :: l, 0, j, v, f, hf, hj => by
    simp only [trCells, List.flatMap_cons, List.modify_zero_cons, Nat.zero_mul, Nat.zero_add]
    rw [List.set_append_left _ _ (by simpa [Tr.cells] using hj), hf]
  | t :: l, k + 1, j, v, f, hf, hj => by
    have ih := trCells_modify (l := l) (k := k) hf hj
    simp only [trCells, List.flatMap_cons, List.modify_succ_cons] at *
    rw [List.set_append_right _ _ (by simp [Tr.cells]; omega), ← ih]
    congr 2
    simp [Tr.cells]; omega
theorem trCells_set : ∀ {l : List Tr} {k : Nat} {t : Tr}, k < l.length → (trCells l).take (k * 9) ++ (t.cells ++ (trCells l).drop (k * 9 + 9)) = trCells (l.set k t)
  | [], k, t, h => by simp at h
  | u :: l, 0, t, _ => by
    simp only [trCells, List.flatMap_cons, List.set_cons_zero, Nat.zero_mul, List.take_zero, List.nil_append, Nat.zero_add]
    rw [List.drop_append_of_le_length (by simp [Tr.cells]), List.drop_of_length_le (by simp [Tr.cells]), List.nil_append]
  | u :: l, k + 1, t, h => by
    have ih := trCells_set (l := l) (k := k) (t := t) (by simpa using h)
    have hl : u.cells.length = 9 := rfl
    simp only [trCells, List.flatMap_cons, List.set_cons_succ] at *
    rw [← ih, List.take_append, List.drop_append, hl, List.take_of_length_le (by omega), List.drop_of_length_le (by omega), show (k + 1) * 9 - 9 = k * 9 by omega, show (k + 1) * 9 + 9 - 9 = k * 9 + 9 by omega]
    simp
/-- what lies across, a fault, at the i-th edge -/
def Tr.setN (t : Tr) (i : Nat) (u : Int) : Tr := if i = 0 then { t with n0 := u } else if i = 1 then { t with n1 := u } else { t with n2 := u }
def Tr.setF (t : Tr) (i : Nat) (f : Bool) : Tr := if i = 0 then { t with f0 := f } else if i = 1 then { t with f1 := f } else { t with f2 := f }
theorem setN_cells {i : Nat} (hi : i < 3) {u : Int} (t : Tr) : (t.setN i u).cells = t.cells.set (3 + i) (.int .i64 u) := by
  match i, hi with
  | 0, _ => rfl
  | 1, _ => rfl
  | 2, _ => rfl
theorem setF_cells {i : Nat} (hi : i < 3) {f : Bool} (t : Tr) : (t.setF i f).cells = t.cells.set (6 + i) (.bool f) := by
  match i, hi with
  | 0, _ => rfl
  | 1, _ => rfl
  | 2, _ => rfl
theorem row_setN {l : List Tr} {k i off : Nat} {u : Int} (hk : k < l.length) (hi : i < 3) (ho : off = k * 9 + (3 + i)) : (trCells l).take off ++ ((Value.int .i64 u).cells.toList ++ (trCells l).drop (off + 1)) = trCells (l.modify k (·.setN i u)) := by
  subst ho
  rw [← trCells_modify (j := 3 + i) (setN_cells hi) (by omega), ← one_set (by rw [trCells_len]; omega)]
  rfl
theorem row_setF {l : List Tr} {k i off : Nat} {f : Bool} (hk : k < l.length) (hi : i < 3) (ho : off = k * 9 + (6 + i)) : (trCells l).take off ++ ((Value.bool f).cells.toList ++ (trCells l).drop (off + 1)) = trCells (l.modify k (·.setF i f)) := by
  subst ho
  rw [← trCells_modify (j := 6 + i) (setF_cells hi) (by omega), ← one_set (by rw [trCells_len]; omega)]
  rfl
def MD.link (m : MD) (t i u j : Nat) (f : Bool) : MD := { m with tris := (((m.tris.modify t (·.setN i u)).modify u (·.setN j t)).modify t (·.setF i f)).modify u (·.setF j f) }


set_option maxRecDepth 100000 in
set_option maxHeartbeats 1000000 in
theorem link_c {B : Nat} {M : MD} {t i u j : Nat} {f : Bool} (ht : t < M.tris.length) (hu : u < M.tris.length) (hi : i < 3) (hj : j < 3) : Tri Try.prog 49 [.pointer (some ⟨B, 0, none⟩), .int .i64 (t : Int), .int .i64 (i : Int), .int .i64 (u : Int), .int .i64 (j : Int), .bool f] [meshR B M] [] (Ret1 (.tuple #[]) (meshR B (M.link t i u j f))) := by
  refine Tri_of (N := 52) Try.func49 rfl ent_49 rfl rfl ?_
  intro w0 S0 T0
  show CJ _ _ _ [(0, _), (1, _), (2, _), (3, _), (4, _), (5, _)] _ _
  refine CJ_open (fun hd => ?_)
  obtain ⟨P, cP, T, cT, F, cF, A, cA⟩ := hd
  show CJ _ _ _ _ [cellsR B #[.slice P M.pts.length cP, .slice T M.tris.length cT, .slice F M.free.length cF, .slice A M.ats.length cA] _, rowR _ 2 P M.pts.length cP (ptCells M.pts), rowR _ 9 T M.tris.length cT (trCells M.tris), rowR _ 1 F M.free.length cF (Iv M.free), rowR _ 1 A M.ats.length cA (Iv M.ats)] _
  refine CJ_rowSome (A := T) (by repeat first | exact .head _ | apply List.Mem.tail) (by omega) (fun gT hT hcT => ?_)
  subst hT
  refine CJ_seq ?_
  refine CJ_regD mix (by kernel_rfl) (fun _ _ _ _ _ h => h) (selR [0, 1, 3, 4] _) _ (selR_sub _ _) (fun _ h => h) ?_
  refine AJ_y 0 rfl (by kernel_rfl) (by kernel_rfl) rfl rfl (YJ_move rfl) ?_
  refine AJ_y 1 rfl (by kernel_rfl) (by kernel_rfl) rfl rfl (YJ_nilCheck rfl) ?_
  first | refine AJ_y 2 rfl (by kernel_rfl) (by kernel_rfl) rfl rfl (YJ_fieldOwn rfl fld_57_1 rfl) ?_ | refine AJ_y 2 rfl (by kernel_rfl) (by kernel_rfl) rfl rfl (YJ_fieldAddr rfl fld_57_1) ?_
  first | refine AJ_y 3 rfl (by kernel_rfl) (by kernel_rfl) rfl rfl (YJ_loadL rfl tyi_54 (by repeat first | exact .head _ | apply List.Mem.tail) rfl) ?_ | refine AJ_y 3 rfl (by kernel_rfl) (by kernel_rfl) rfl rfl (YJ_loadFact rfl tyi_54 (by repeat first | exact .head _ | apply List.Mem.tail) rfl) ?_
  refine AJ_y 4 rfl (by kernel_rfl) (by kernel_rfl) rfl rfl (YJ_move rfl) ?_
  refine AJ_y 5 rfl (by kernel_rfl) (by kernel_rfl) rfl rfl (YJ_move rfl) ?_
  refine AJ_y 6 rfl (by kernel_rfl) (by kernel_rfl) rfl rfl (YJ_move rfl) ?_
  refine AJ_y 7 rfl (by kernel_rfl) (by kernel_rfl) rfl rfl (YJ_nilCheck rfl) ?_
  first | refine AJ_y 8 rfl (by kernel_rfl) (by kernel_rfl) rfl rfl (YJ_fieldOwn rfl fld_57_1 rfl) ?_ | refine AJ_y 8 rfl (by kernel_rfl) (by kernel_rfl) rfl rfl (YJ_fieldAddr rfl fld_57_1) ?_
  first | refine AJ_y 9 rfl (by kernel_rfl) (by kernel_rfl) rfl rfl (YJ_loadL rfl tyi_54 (by repeat first | exact .head _ | apply List.Mem.tail) rfl) ?_ | refine AJ_y 9 rfl (by kernel_rfl) (by kernel_rfl) rfl rfl (YJ_loadFact rfl tyi_54 (by repeat first | exact .head _ | apply List.Mem.tail) rfl) ?_
  refine AJ_y 10 rfl (by kernel_rfl) (by kernel_rfl) rfl rfl (YJ_move rfl) ?_
  refine AJ_y 11 rfl (by kernel_rfl) (by kernel_rfl) rfl rfl (YJ_move rfl) ?_
  refine AJ_y 12 rfl (by kernel_rfl) (by kernel_rfl) rfl rfl (YJ_move rfl) ?_
  refine AJ_y 13 rfl (by kernel_rfl) (by kernel_rfl) rfl rfl (YJ_move rfl) ?_
  refine AJ_y 14 rfl (by kernel_rfl) (by kernel_rfl) rfl rfl (YJ_ixOwn rfl rfl elt_54 (by omega) (by omega)) ?_
  first | refine AJ_y 15 rfl (by kernel_rfl) (by kernel_rfl) rfl rfl (YJ_fieldOwn rfl fld_37_1 rfl) ?_ | refine AJ_y 15 rfl (by kernel_rfl) (by kernel_rfl) rfl rfl (YJ_fieldAddr rfl fld_37_1) ?_
  first | refine AJ_y 16 rfl (by kernel_rfl) (by kernel_rfl) rfl rfl (YJ_ixArr rfl rfl arrt_34 (by omega) (by omega) rfl) ?_ | refine AJ_y 16 rfl (by kernel_rfl) (by kernel_rfl) rfl rfl (YJ_ixArrP rfl rfl arrt_34 (by omega) (by omega)) ?_
  refine AJ_y 18 rfl (by kernel_rfl) (by kernel_rfl) rfl rfl (YJ_ixOwn rfl rfl elt_54 (by omega) (by omega)) ?_
  first | refine AJ_y 19 rfl (by kernel_rfl) (by kernel_rfl) rfl rfl (YJ_fieldOwn rfl fld_37_1 rfl) ?_ | refine AJ_y 19 rfl (by kernel_rfl) (by kernel_rfl) rfl rfl (YJ_fieldAddr rfl fld_37_1) ?_
  refine AJ_storeRow (off := t * 9 + (3 + i)) (xs' := trCells (M.tris.modify t (·.setN i u))) (μ' := (_ :: _ :: _ :: _ :: _ :: _)) 17 2 rfl (by kernel_rfl) rfl rfl rfl (addr_eq (by simp only [Nat.add_eq]; omega)) rfl tyi_3 rfl (by simp only [trCells_len, List.length_modify]; omega) rfl (row_setN ht hi rfl) (by simp only [trCells_len, List.length_modify]; omega) rfl (fun _ => AllIn.sub (And.intro (by repeat first | exact .head _ | apply List.Mem.tail) (And.intro (by repeat first | exact .head _ | apply List.Mem.tail) (And.intro (by repeat first | exact .head _ | apply List.Mem.tail) (And.intro (by repeat first | exact .head _ | apply List.Mem.tail) (trivial)))))) ?_
  first | refine AJ_y 20 rfl (by kernel_rfl) (by kernel_rfl) rfl rfl (YJ_ixArr rfl rfl arrt_34 (by omega) (by omega) rfl) ?_ | refine AJ_y 20 rfl (by kernel_rfl) (by kernel_rfl) rfl rfl (YJ_ixArrP rfl rfl arrt_34 (by omega) (by omega)) ?_
  refine AJ_storeRow (off := u * 9 + (3 + j)) (xs' := trCells ((M.tris.modify t (·.setN i u)).modify u (·.setN j t))) (μ' := (_ :: _ :: _ :: _ :: _ :: _)) 21 2 rfl (by kernel_rfl) rfl rfl rfl (addr_eq (by simp only [Nat.add_eq]; omega)) rfl tyi_3 rfl (by simp only [trCells_len, List.length_modify]; omega) rfl (row_setN (by simp only [List.length_modify]; omega) hj rfl) (by simp only [trCells_len, List.length_modify]; omega) rfl (fun _ => AllIn.sub (And.intro (by repeat first | exact .head _ | apply List.Mem.tail) (And.intro (by repeat first | exact .head _ | apply List.Mem.tail) (And.intro (by repeat first | exact .head _ | apply List.Mem.tail) (And.intro (by repeat first | exact .head _ | apply List.Mem.tail) (trivial)))))) ?_
  refine AJ_done (by kernel_rfl) ?_
  refine QJ_then ?_
  refine CJ_regD mix (by kernel_rfl) (fun _ _ _ _ _ h => h) (selR [0, 1, 3, 4] _) _ (selR_sub _ _) (fun _ h => h) ?_
  refine AJ_y 0 rfl (by kernel_rfl) (by kernel_rfl) rfl rfl (YJ_move rfl) ?_
  refine AJ_y 1 rfl (by kernel_rfl) (by kernel_rfl) rfl rfl (YJ_nilCheck rfl) ?_
  first | refine AJ_y 2 rfl (by kernel_rfl) (by kernel_rfl) rfl rfl (YJ_fieldOwn rfl fld_57_1 rfl) ?_ | refine AJ_y 2 rfl (by kernel_rfl) (by kernel_rfl) rfl rfl (YJ_fieldAddr rfl fld_57_1) ?_
  first | refine AJ_y 3 rfl (by kernel_rfl) (by kernel_rfl) rfl rfl (YJ_loadL rfl tyi_54 (by repeat first | exact .head _ | apply List.Mem.tail) rfl) ?_ | refine AJ_y 3 rfl (by kernel_rfl) (by kernel_rfl) rfl rfl (YJ_loadFact rfl tyi_54 (by repeat first | exact .head _ | apply List.Mem.tail) rfl) ?_
  refine AJ_y 4 rfl (by kernel_rfl) (by kernel_rfl) rfl rfl (YJ_move rfl) ?_
  refine AJ_y 5 rfl (by kernel_rfl) (by kernel_rfl) rfl rfl (YJ_move rfl) ?_
  refine AJ_y 6 rfl (by kernel_rfl) (by kernel_rfl) rfl rfl (YJ_move rfl) ?_
  refine AJ_y 7 rfl (by kernel_rfl) (by kernel_rfl) rfl rfl (YJ_nilCheck rfl) ?_
  first | refine AJ_y 8 rfl (by kernel_rfl) (by kernel_rfl) rfl rfl (YJ_fieldOwn rfl fld_57_1 rfl) ?_ | refine AJ_y 8 rfl (by kernel_rfl) (by kernel_rfl) rfl rfl (YJ_fieldAddr rfl fld_57_1) ?_
  first | refine AJ_y 9 rfl (by kernel_rfl) (by kernel_rfl) rfl rfl (YJ_loadL rfl tyi_54 (by repeat first | exact .head _ | apply List.Mem.tail) rfl) ?_ | refine AJ_y 9 rfl (by kernel_rfl) (by kernel_rfl) rfl rfl (YJ_loadFact rfl tyi_54 (by repeat first | exact .head _ | apply List.Mem.tail) rfl) ?_
  refine AJ_y 10 rfl (by kernel_rfl) (by kernel_rfl) rfl rfl (YJ_move rfl) ?_
  refine AJ_y 11 rfl (by kernel_rfl) (by kernel_rfl) rfl rfl (YJ_move rfl) ?_
  refine AJ_y 12 rfl (by kernel_rfl) (by kernel_rfl) rfl rfl (YJ_move rfl) ?_
  refine AJ_y 13 rfl (by kernel_rfl) (by kernel_rfl) rfl rfl (YJ_move rfl) ?_
  refine AJ_y 14 rfl (by kernel_rfl) (by kernel_rfl) rfl rfl (YJ_ixOwn rfl rfl elt_54 (by omega) (by omega)) ?_
  first | refine AJ_y 15 rfl (by kernel_rfl) (by kernel_rfl) rfl rfl (YJ_fieldOwn rfl fld_37_2 rfl) ?_ | refine AJ_y 15 rfl (by kernel_rfl) (by kernel_rfl) rfl rfl (YJ_fieldAddr rfl fld_37_2) ?_
  first | refine AJ_y 16 rfl (by kernel_rfl) (by kernel_rfl) rfl rfl (YJ_ixArr rfl rfl arrt_35 (by omega) (by omega) rfl) ?_ | refine AJ_y 16 rfl (by kernel_rfl) (by kernel_rfl) rfl rfl (YJ_ixArrP rfl rfl arrt_35 (by omega) (by omega)) ?_
  refine AJ_y 18 rfl (by kernel_rfl) (by kernel_rfl) rfl rfl (YJ_ixOwn rfl rfl elt_54 (by omega) (by omega)) ?_
  first | refine AJ_y 19 rfl (by kernel_rfl) (by kernel_rfl) rfl rfl (YJ_fieldOwn rfl fld_37_2 rfl) ?_ | refine AJ_y 19 rfl (by kernel_rfl) (by kernel_rfl) rfl rfl (YJ_fieldAddr rfl fld_37_2) ?_
  refine AJ_storeRow (off := t * 9 + (6 + i)) (xs' := trCells (((M.tris.modify t (·.setN i u)).modify u (·.setN j t)).modify t (·.setF i f))) (μ' := (_ :: _ :: _ :: _ :: _ :: _)) 17 2 rfl (by kernel_rfl) rfl rfl rfl (addr_eq (by simp only [Nat.add_eq]; omega)) rfl tyi_4 rfl (by simp only [trCells_len, List.length_modify]; omega) rfl (row_setF (by simp only [List.length_modify]; omega) hi rfl) (by simp only [trCells_len, List.length_modify]; omega) rfl (fun _ => AllIn.sub (And.intro (by repeat first | exact .head _ | apply List.Mem.tail) (And.intro (by repeat first | exact .head _ | apply List.Mem.tail) (And.intro (by repeat first | exact .head _ | apply List.Mem.tail) (And.intro (by repeat first | exact .head _ | apply List.Mem.tail) (trivial)))))) ?_
  first | refine AJ_y 20 rfl (by kernel_rfl) (by kernel_rfl) rfl rfl (YJ_ixArr rfl rfl arrt_35 (by omega) (by omega) rfl) ?_ | refine AJ_y 20 rfl (by kernel_rfl) (by kernel_rfl) rfl rfl (YJ_ixArrP rfl rfl arrt_35 (by omega) (by omega)) ?_
  refine AJ_storeRow (off := u * 9 + (6 + j)) (xs' := trCells ((((M.tris.modify t (·.setN i u)).modify u (·.setN j t)).modify t (·.setF i f)).modify u (·.setF j f))) (μ' := (_ :: _ :: _ :: _ :: _ :: _)) 21 2 rfl (by kernel_rfl) rfl rfl rfl (addr_eq (by simp only [Nat.add_eq]; omega)) rfl tyi_4 rfl (by simp only [trCells_len, List.length_modify]; omega) rfl (row_setF (by simp only [List.length_modify]; omega) hj rfl) (by simp only [trCells_len, List.length_modify]; omega) rfl (fun _ => AllIn.sub (And.intro (by repeat first | exact .head _ | apply List.Mem.tail) (And.intro (by repeat first | exact .head _ | apply List.Mem.tail) (And.intro (by repeat first | exact .head _ | apply List.Mem.tail) (And.intro (by repeat first | exact .head _ | apply List.Mem.tail) (trivial)))))) ?_
  refine AJ_done (by kernel_rfl) ?_
  refine QJ_closeMesh (M.link t i u j f) (permI [] rfl) ⟨rfl, rfl⟩ ⟨by simp [MD.link], rfl⟩ ⟨rfl, rfl⟩ ⟨rfl, rfl⟩ ?_
  exact QJ_fin (.inr rfl) (μ' := [_]) (μr := []) (φ' := []) (res_none rfl) (List.Perm.refl _) (fun _ h => nomatch h) ⟨rfl, rfl, rfl⟩


/-- a triangle that is gone, a new one -/
def Tr.gone : Tr := ⟨-2, -2, -2, -1, -1, -1, false, false, false⟩
def Tr.new (a b c : Int) : Tr := ⟨a, b, c, -1, -1, -1, false, false, false⟩
def MD.drop (m : MD) (t : Nat) : MD := { m with tris := m.tris.set t Tr.gone, free := m.free ++ [(t : Int)] }
def MD.add (m : MD) (p : Int × Int) : MD := { m with pts := m.pts ++ [p], ats := m.ats ++ [-1] }
theorem row_set {l : List Tr} {k off : Nat} {t : Tr} (hk : k < l.length) (ho : off = k * 9) : (trCells l).take off ++ ((Value.agg t.cells.toArray).cells.toList ++ (trCells l).drop (off + 9)) = trCells (l.set k t) := by
  subst ho
  exact trCells_set hk
theorem Iv_app (l : List Int) (k : Int) : Iv l ++ [.int .i64 k] = Iv (l ++ [k]) := by simp [Iv]
theorem ptCells_app : ∀ (l : List (Int × Int)) (p : Int × Int), ptCells l ++ [.int .i64 p.1, .int .i64 p.2] = ptCells (l ++ [p])
  | [], p => rfl
  | q :: l, p => by
    have := ptCells_app l p
    simp only [ptCells, List.flatMap_cons, List.cons_append, List.append_assoc] at *
    rw [this]
theorem trCells_app (l : List Tr) (t : Tr) : trCells l ++ t.cells = trCells (l ++ [t]) := by simp [trCells]
theorem Iv_len (l : List Int) : (Iv l).length = l.length := by simp [Iv]


set_option maxRecDepth 100000 in
set_option maxHeartbeats 1000000 in
theorem drop_c {B : Nat} {M : MD} {t : Nat} (ht : t < M.tris.length) (hlen : M.tris.length ≤ 1000000) (hfl : M.free.length ≤ 1000000) : Tri Try.prog 34 [.pointer (some ⟨B, 0, none⟩), .int .i64 (t : Int)] [meshR B M] [] (Ret1 (.tuple #[]) (meshR B (M.drop t))) := by
  refine Tri_of (N := 23) Try.func34 rfl ent_34 rfl rfl ?_
  intro w0 S0 T0
  show CJ _ _ _ [(0, _), (1, _)] _ _
  refine CJ_open (fun hd => ?_)
  obtain ⟨P, cP, T, cT, F, cF, A, cA⟩ := hd
  show CJ _ _ _ _ [cellsR B #[.slice P M.pts.length cP, .slice T M.tris.length cT, .slice F M.free.length cF, .slice A M.ats.length cA] _, rowR _ 2 P M.pts.length cP (ptCells M.pts), rowR _ 9 T M.tris.length cT (trCells M.tris), rowR _ 1 F M.free.length cF (Iv M.free), rowR _ 1 A M.ats.length cA (Iv M.ats)] _
  refine CJ_rowSome (A := T) (by repeat first | exact .head _ | apply List.Mem.tail) (by omega) (fun gT hT hcT => ?_)
  subst hT
  refine CJ_seq ?_
  refine CJ_reg ?_
  refine LJ_y rfl rfl (YJ_move rfl) ?_
  refine LJ_y rfl rfl (YJ_nilCheck rfl) ?_
  first | refine LJ_y rfl rfl (YJ_fieldOwn rfl fld_57_1 rfl) ?_ | refine LJ_y rfl rfl (YJ_fieldAddr rfl fld_57_1) ?_
  first | refine LJ_y rfl rfl (YJ_loadL rfl tyi_54 (by repeat first | exact .head _ | apply List.Mem.tail) rfl) ?_ | refine LJ_y rfl rfl (YJ_loadFact rfl tyi_54 (by repeat first | exact .head _ | apply List.Mem.tail) rfl) ?_
  refine LJ_y rfl rfl (YJ_move rfl) ?_
  refine LJ_y rfl rfl (YJ_build1 (cs := [_, _, _]) lay_34 rfl rfl rfl) ?_
  refine LJ_y rfl rfl (YJ_build1 (cs := [_, _, _]) lay_34 rfl rfl rfl) ?_
  refine LJ_y rfl rfl (YJ_buildN (cs := [_, _, _, _, _, _, _, _, _]) layn_37 rfl rfl rfl) ?_
  refine LJ_y rfl rfl (YJ_ixOwn rfl rfl elt_54 (by omega) (by omega)) ?_
  refine LJ_storeRow (off := t * 9) (xs' := trCells (M.tris.set t Tr.gone)) (μ' := (_ :: _ :: _ :: _ :: _ :: _)) 2 rfl rfl rfl (addr_eq (by omega)) rfl tyi_37 rfl (by rw [trCells_len]; omega) rfl (row_set (t := Tr.gone) ht rfl) (by rw [trCells_len]; omega) rfl ?_
  refine LJ_nil ?_
  refine QJ_then ?_
  refine CJ_reg ?_
  refine LJ_y rfl rfl (YJ_move rfl) ?_
  refine LJ_y rfl rfl (YJ_move rfl) ?_
  refine LJ_y rfl rfl (YJ_nilCheck rfl) ?_
  first | refine LJ_y rfl rfl (YJ_fieldOwn rfl fld_57_2 rfl) ?_ | refine LJ_y rfl rfl (YJ_fieldAddr rfl fld_57_2) ?_
  first | refine LJ_y rfl rfl (YJ_loadL rfl tyi_55 (by repeat first | exact .head _ | apply List.Mem.tail) rfl) ?_ | refine LJ_y rfl rfl (YJ_loadFact rfl tyi_55 (by repeat first | exact .head _ | apply List.Mem.tail) rfl) ?_
  refine LJ_y rfl rfl (YJ_move rfl) ?_
  refine LJ_buildSlice (cs := [_]) rfl rfl elt_55 zer_3 rfl (by decide) (pvs := [(_, _)]) rfl rfl rfl ?_
  intro b1
  refine LJ_append 4 rfl rfl elt_55 zer_3 rfl rfl rfl rfl (Rd_own (by repeat first | exact .head _ | apply List.Mem.tail)) rfl rfl (by omega) (by omega) (by decide) (Iv_app M.free (t : Int)) ?_
  intro A20 c20
  show LJ _ _ _ _ _ (_ :: _ :: _ :: _ :: _ :: _ :: _) _
  refine LJ_y rfl rfl (YJ_nilCheck rfl) ?_
  first | refine LJ_y rfl rfl (YJ_fieldOwn rfl fld_57_2 rfl) ?_ | refine LJ_y rfl rfl (YJ_fieldAddr rfl fld_57_2) ?_
  refine LJ_store (cs' := #[_, _, _, _]) (μ' := [_, _, _, _, _, _]) 1 rfl rfl rfl rfl tyi_55 rfl (Nat.le_of_ble_eq_true rfl) rfl rfl rfl ?_
  refine LJ_nil ?_
  refine QJ_closeMesh (M.drop t) (permI [1, 1, 1, 1, 1] rfl) ⟨rfl, rfl⟩ ⟨by simp [MD.drop], rfl⟩ ⟨by simp [MD.drop], rfl⟩ ⟨rfl, rfl⟩ ?_
  exact QJ_fin (.inr rfl) (μ' := [_]) (μr := [_]) (φ' := []) (res_none rfl) (List.Perm.refl _) (fun _ h => nomatch h) ⟨rfl, rfl, rfl⟩

set_option maxRecDepth 100000 in
set_option maxHeartbeats 1000000 in
theorem add_c {B : Nat} {M : MD} {p1 p2 : Int} (hlen : M.pts.length ≤ 1000000) (hfl : M.ats.length ≤ 1000000) : Tri Try.prog 30 [.pointer (some ⟨B, 0, none⟩), ptv p1 p2] [meshR B M] [] (Ret1 (.int .i64 M.pts.length) (meshR B (M.add (p1, p2)))) := by
  refine Tri_of (N := 30) Try.func30 rfl ent_30 rfl rfl ?_
  intro w0 S0 T0
  show CJ _ _ _ [(0, _), (1, _)] _ _
  refine CJ_open (fun hd => ?_)
  obtain ⟨P, cP, T, cT, F, cF, A, cA⟩ := hd
  show CJ _ _ _ _ [cellsR B #[.slice P M.pts.length cP, .slice T M.tris.length cT, .slice F M.free.length cF, .slice A M.ats.length cA] _, rowR _ 2 P M.pts.length cP (ptCells M.pts), rowR _ 9 T M.tris.length cT (trCells M.tris), rowR _ 1 F M.free.length cF (Iv M.free), rowR _ 1 A M.ats.length cA (Iv M.ats)] _
  refine CJ_seq ?_
  refine CJ_reg ?_
  refine LJ_box (cs := #[_, _]) rfl rfl rfl rfl ?_
  intro b1
  refine LJ_y rfl rfl (YJ_assign rfl) ?_
  refine LJ_nil ?_
  refine QJ_then ?_
  refine CJ_seq ?_
  refine CJ_regM mix (by kernel_rfl) (fun _ _ _ _ _ h => h) [[], [10], [7, 10], [], [], []] ?_
  refine BJ_y 0 rfl (by kernel_rfl) (by kernel_rfl) (by kernel_rfl) rfl rfl (YJ_move rfl) ?_
  refine BJ_y 1 rfl (by kernel_rfl) (by kernel_rfl) (by kernel_rfl) rfl rfl (YJ_move rfl) ?_
  refine BJ_y 2 rfl (by kernel_rfl) (by kernel_rfl) (by kernel_rfl) rfl rfl (YJ_nilCheck rfl) ?_
  first | refine BJ_y 3 rfl (by kernel_rfl) (by kernel_rfl) (by kernel_rfl) rfl rfl (YJ_fieldOwn rfl fld_57_0 rfl) ?_ | refine BJ_y 3 rfl (by kernel_rfl) (by kernel_rfl) (by kernel_rfl) rfl rfl (YJ_fieldAddr rfl fld_57_0) ?_
  first | refine BJ_l 4 1 rfl (by kernel_rfl) (by kernel_rfl) (by kernel_rfl) rfl (by kernel_rfl) (by repeat first | exact .head _ | apply List.Mem.tail) rfl rfl (YJ_loadL rfl tyi_26 (by repeat first | exact .head _ | apply List.Mem.tail) rfl) ?_ | refine BJ_l 4 1 rfl (by kernel_rfl) (by kernel_rfl) (by kernel_rfl) rfl (by kernel_rfl) (by repeat first | exact .head _ | apply List.Mem.tail) rfl rfl (YJ_loadFact rfl tyi_26 (by repeat first | exact .head _ | apply List.Mem.tail) rfl) ?_
  first | refine BJ_l 5 0 rfl (by kernel_rfl) (by kernel_rfl) (by kernel_rfl) rfl (by kernel_rfl) (by repeat first | exact .head _ | apply List.Mem.tail) rfl rfl (YJ_loadN (vs := [_, _]) rfl tyi_23 (by repeat first | exact .head _ | apply List.Mem.tail) rfl rfl) ?_ | refine BJ_l 5 0 rfl (by kernel_rfl) (by kernel_rfl) (by kernel_rfl) rfl (by kernel_rfl) (by repeat first | exact .head _ | apply List.Mem.tail) rfl rfl (YJ_loadFactN (vs := [_, _]) rfl tyi_23 (by repeat first | exact .head _ | apply List.Mem.tail) rfl rfl) ?_
  refine BJ_buildSlice (vs := [_]) (cs := [_, _]) 6 rfl (by kernel_rfl) rfl rfl elt_26 zer_23 (by decide) (by decide) rfl rfl rfl rfl rfl (fun b => (And.intro (.inr (by repeat first | exact .head _ | apply List.Mem.tail)) (And.intro (.inr (by repeat first | exact .head _ | apply List.Mem.tail)) (And.intro (.inr (by repeat first | exact .head _ | apply List.Mem.tail)) (And.intro (.inr (by repeat first | exact .head _ | apply List.Mem.tail)) (And.intro (.inr (by repeat first | exact .head _ | apply List.Mem.tail)) (And.intro (.inr (by repeat first | exact .head _ | apply List.Mem.tail)) (trivial)))))))) ?_
  intro b2
  refine BJ_append 7 3 rfl (by kernel_rfl) rfl rfl elt_26 zer_23 rfl rfl rfl rfl (Rd_own (by repeat first | exact .head _ | apply List.Mem.tail)) rfl rfl (by omega) (by omega) (by decide) (ptCells_app M.pts (p1, p2)) (fun _ _ => (And.intro (.inr (by repeat first | exact .head _ | apply List.Mem.tail)) (And.intro (.inr (by repeat first | exact .head _ | apply List.Mem.tail)) (And.intro (.inl rfl) (And.intro (.inr (by repeat first | exact .head _ | apply List.Mem.tail)) (And.intro (.inr (by repeat first | exact .head _ | apply List.Mem.tail)) (And.intro (.inr (by repeat first | exact .head _ | apply List.Mem.tail)) (trivial)))))))) ?_
  intro A12 c12
  show BJ _ _ _ _ _ _ _ _ (_ :: _ :: _ :: _ :: _ :: _ :: _ :: _) _
  refine BJ_y 8 rfl (by kernel_rfl) (by kernel_rfl) (by kernel_rfl) rfl rfl (YJ_nilCheck rfl) ?_
  first | refine BJ_y 9 rfl (by kernel_rfl) (by kernel_rfl) (by kernel_rfl) rfl rfl (YJ_fieldOwn rfl fld_57_0 rfl) ?_ | refine BJ_y 9 rfl (by kernel_rfl) (by kernel_rfl) (by kernel_rfl) rfl rfl (YJ_fieldAddr rfl fld_57_0) ?_
  refine BJ_store (cs' := #[_, _, _, _]) (μ' := [_, _, _, _, _, _, _]) 10 2 rfl (by kernel_rfl) rfl rfl rfl rfl tyi_26 rfl (Nat.le_of_ble_eq_true rfl) rfl rfl rfl (And.intro (.inr (by repeat first | exact .head _ | apply List.Mem.tail)) (And.intro (.inl rfl) (And.intro (.inl rfl) (And.intro (.inr (by repeat first | exact .head _ | apply List.Mem.tail)) (And.intro (.inr (by repeat first | exact .head _ | apply List.Mem.tail)) (And.intro (.inr (by repeat first | exact .head _ | apply List.Mem.tail)) (trivial))))))) ?_
  refine BJ_done (by kernel_rfl) ?_
  refine QJ_then ?_
  refine CJ_seq ?_
  refine CJ_reg ?_
  refine LJ_y rfl rfl (YJ_move rfl) ?_
  refine LJ_y rfl rfl (YJ_move rfl) ?_
  refine LJ_y rfl rfl (YJ_nilCheck rfl) ?_
  first | refine LJ_y rfl rfl (YJ_fieldOwn rfl fld_57_3 rfl) ?_ | refine LJ_y rfl rfl (YJ_fieldAddr rfl fld_57_3) ?_
  first | refine LJ_y rfl rfl (YJ_loadL rfl tyi_55 (by repeat first | exact .head _ | apply List.Mem.tail) rfl) ?_ | refine LJ_y rfl rfl (YJ_loadFact rfl tyi_55 (by repeat first | exact .head _ | apply List.Mem.tail) rfl) ?_
  refine LJ_buildSlice (cs := [_]) rfl rfl elt_55 zer_3 rfl (by decide) (pvs := [(_, _)]) rfl rfl rfl ?_
  intro b3
  refine LJ_append 7 rfl rfl elt_55 zer_3 rfl rfl rfl rfl (Rd_own (by repeat first | exact .head _ | apply List.Mem.tail)) rfl rfl (by omega) (by omega) (by decide) (Iv_app M.ats (-1)) ?_
  intro A21 c21
  show LJ _ _ _ _ _ (_ :: _ :: _ :: _ :: _ :: _ :: _ :: _ :: _) _
  refine LJ_y rfl rfl (YJ_nilCheck rfl) ?_
  first | refine LJ_y rfl rfl (YJ_fieldOwn rfl fld_57_3 rfl) ?_ | refine LJ_y rfl rfl (YJ_fieldAddr rfl fld_57_3) ?_
  refine LJ_store (cs' := #[_, _, _, _]) (μ' := [_, _, _, _, _, _, _, _]) 3 rfl rfl rfl rfl tyi_55 rfl (Nat.le_of_ble_eq_true rfl) rfl rfl rfl ?_
  refine LJ_nil ?_
  refine QJ_then ?_
  refine CJ_seq ?_
  refine CJ_reg ?_
  refine LJ_y rfl rfl (YJ_move rfl) ?_
  refine LJ_y rfl rfl (YJ_nilCheck rfl) ?_
  first | refine LJ_y rfl rfl (YJ_fieldOwn rfl fld_57_0 rfl) ?_ | refine LJ_y rfl rfl (YJ_fieldAddr rfl fld_57_0) ?_
  first | refine LJ_y rfl rfl (YJ_loadL rfl tyi_26 (by repeat first | exact .head _ | apply List.Mem.tail) rfl) ?_ | refine LJ_y rfl rfl (YJ_loadFact rfl tyi_26 (by repeat first | exact .head _ | apply List.Mem.tail) rfl) ?_
  refine LJ_y rfl rfl (YJ_len rfl ulen_26 rfl) ?_
  first | refine LJ_y rfl rfl (YJ_bin rfl rfl (iop_sub (by omega))) ?_ | refine LJ_y rfl rfl (YJ_bin rfl rfl rfl) ?_
  refine LJ_y rfl rfl (YJ_assign rfl) ?_
  refine LJ_nil ?_
  refine QJ_then ?_
  refine CJ_ret ?_
  refine QJ_closeMesh (M.add (p1, p2)) (permI [3, 3, 3, 3, 3] rfl) ⟨by simp [MD.add], rfl⟩ ⟨rfl, rfl⟩ ⟨rfl, rfl⟩ ⟨by simp [MD.add], rfl⟩ ?_
  exact QJ_fin (.inl rfl) (μ' := [_]) (μr := [_, _, _]) (φ' := []) (res_tmp rfl rfl) (List.Perm.refl _) (fun _ h => nomatch h) ⟨congrArg (Value.int .i64) (by omega), rfl, rfl⟩

end Go.Proofs.Ytbanlhlggkdanaa
