/- The walks of what only reads a mesh. -/
import Derived.Test.YtbanlhlggkdanaaMsh
set_option linter.unusedSimpArgs false
set_option linter.unusedVariables false
namespace Go.Proofs.Ytbanlhlggkdanaa
open Go.RowKit

theorem tyi_54 : tyi Try.prog 54 = some (false, 1) := by kernel_rfl
theorem tyi_34 : tyi Try.prog 34 = some (true, 3) := by kernel_rfl
theorem elt_54 : elt Try.prog 54 = some (37, 9, 56) := by kernel_rfl
theorem ent_26 : Enter Try.prog 26 = true := by kernel_rfl
theorem fld_57_1 : fld Try.prog 57 1 = some 1 := by kernel_rfl
theorem ulen_54 : ((#[54] : Array TypeId)[0]?).bind Try.prog.underlying = some (.slice (Try.prog.elem ((#[54] : Array TypeId).getD 0 0))) := by kernel_rfl
theorem fld_37_0 : fld Try.prog 37 0 = some 0 := by kernel_rfl
theorem zer_34 : zer Try.prog 34 = some (.agg #[.int .i64 0, .int .i64 0, .int .i64 0]) := by kernel_rfl
theorem arrt_34 : arrt Try.prog 34 = some (3, 3, 1) := by kernel_rfl
theorem tyi_26 : tyi Try.prog 26 = some (false, 1) := by kernel_rfl
theorem elt_26 : elt Try.prog 26 = some (23, 2, 16) := by kernel_rfl
theorem ent_53 : Enter Try.prog 53 = true := by kernel_rfl
theorem fld_57_0 : fld Try.prog 57 0 = some 0 := by kernel_rfl
theorem tyi_37 : tyi Try.prog 37 = some (true, 9) := by kernel_rfl
theorem ent_21 : Enter Try.prog 21 = true := by kernel_rfl
theorem zer_37 : zer Try.prog 37 = some (.agg #[.int .i64 0, .int .i64 0, .int .i64 0, .int .i64 0, .int .i64 0, .int .i64 0, .bool false, .bool false, .bool false]) := by kernel_rfl


/-- a triangle of real points -/
def Tr.real (t : Tr) : Prop := 0 ≤ t.v0 ∧ 0 ≤ t.v1 ∧ 0 ≤ t.v2
instance (t : Tr) : Decidable t.real := inferInstanceAs (Decidable (_ ∧ _))
def isReal (tris : List Tr) (i : Int) : Prop := 0 ≤ i ∧ ∃ t, tris[i.toNat]? = some t ∧ t.real
instance (tris : List Tr) (i : Int) : Decidable (isReal tris i) := by
  unfold isReal
  cases h : tris[i.toNat]? with
  | none => exact isFalse (fun q => by obtain ⟨_, t, ht, _⟩ := q; cases ht)
  | some t => exact if q : 0 ≤ i ∧ t.real then isTrue ⟨q.1, t, rfl, q.2⟩ else isFalse (fun r => by obtain ⟨h0, u, hu, hr⟩ := r; cases hu; exact q ⟨h0, hr⟩)
theorem trCells_v {l : List Tr} {i : Nat} {t : Tr} (h : l[i]? = some t) : ((trCells l).drop (i * 9)).take 3 = [.int .i64 t.v0, .int .i64 t.v1, .int .i64 t.v2] := by
  have := congrArg (List.take 3) (trCells_row h)
  rw [List.take_take] at this
  exact this
theorem get_of_lt {tris : List Tr} {i : Int} (h0 : ¬ i < 0) (h1 : ¬ (tris.length : Int) ≤ i) : ∃ t, tris[i.toNat]? = some t :=
  ⟨tris[i.toNat]'(by omega), List.getElem?_eq_getElem (by omega)⟩
theorem not_real {tris : List Tr} {i : Int} (h : i < 0 ∨ (tris.length : Int) ≤ i) : ¬ isReal tris i := fun ⟨h0, t, ht, _⟩ => by
  have : i.toNat < tris.length := by
    rcases Nat.lt_or_ge i.toNat tris.length with q | q
    · exact q
    · rw [List.getElem?_eq_none q] at ht; cases ht
  omega
theorem real_iff {tris : List Tr} {i : Int} {t : Tr} (h0 : ¬ i < 0) (ht : tris[i.toNat]? = some t) : isReal tris i ↔ t.real :=
  ⟨fun ⟨_, u, hu, hr⟩ => by rw [ht] at hu; cases hu; exact hr, fun hr => ⟨by omega, t, ht, hr⟩⟩


set_option maxRecDepth 100000 in
set_option maxHeartbeats 1000000 in
theorem real_c {B : Nat} {h : Mh} {pts : List (Int × Int)} {tris : List Tr} {i : Int} : Tri Try.prog 26 [.pointer (some ⟨B, 0, none⟩), .int .i64 i] [] (meshFs B h pts tris) (Ret0 (.bool (decide (isReal tris i)))) := by
  refine Tri_of (N := 38) Try.func26 rfl ent_26 rfl rfl ?_
  intro w0 S0 T0
  show CJ _ _ _ [(0, _), (1, _)] _ _
  refine CJ_seq ?_
  refine CJ_reg ?_
  refine LJ_y rfl rfl (YJ_assign rfl) ?_
  refine LJ_nil ?_
  refine QJ_then ?_
  refine CJ_seq ?_
  refine CJ_seq ?_
  refine CJ_reg ?_
  refine LJ_y rfl rfl (YJ_move rfl) ?_
  refine LJ_y rfl rfl (YJ_bin rfl rfl rfl) ?_
  refine LJ_y rfl rfl (YJ_move rfl) ?_
  refine LJ_boolC (fun h8 => ?_) (fun h8 => ?_)
  · try simp only [decide_eq_true_eq, decide_eq_false_iff_not, Bool.not_eq_true', Bool.not_eq_false', Bool.and_eq_true, Bool.and_eq_false_iff, beq_iff_eq, bne_iff_ne, beq_eq_false_iff_ne, bne_eq_false_iff_eq, ne_eq, decide_eq_decide] at h8
    refine LJ_skip rfl rfl ?_
    refine LJ_skip rfl rfl ?_
    refine LJ_skip rfl rfl ?_
    refine LJ_skip rfl rfl ?_
    refine LJ_skip rfl rfl ?_
    refine LJ_skip rfl rfl ?_
    refine LJ_skip rfl rfl ?_
    refine LJ_y rfl rfl (YJ_pickT rfl rfl) ?_
    refine LJ_nil ?_
    refine QJ_then ?_
    refine CJ_condT rfl ?_
    refine CJ_seq ?_
    refine CJ_reg ?_
    refine LJ_y rfl rfl (YJ_assign rfl) ?_
    refine LJ_nil ?_
    refine QJ_then ?_
    refine CJ_ret ?_
    refine QJ_then_ret ?_
    refine QJ_fin (.inl rfl) (μ' := []) (μr := _) (φ' := []) (res_tmp rfl rfl) (List.Perm.refl _) (fun _ h => nomatch h) ?_
    exact ⟨congrArg Value.bool (decide_eq_false (not_real (.inl h8))).symm, rfl, rfl⟩
  · try simp only [decide_eq_true_eq, decide_eq_false_iff_not, Bool.not_eq_true', Bool.not_eq_false', Bool.and_eq_true, Bool.and_eq_false_iff, beq_iff_eq, bne_iff_ne, beq_eq_false_iff_ne, bne_eq_false_iff_eq, ne_eq, decide_eq_decide] at h8
    refine LJ_y rfl rfl (YJ_move rfl) ?_
    refine LJ_y rfl rfl (YJ_move rfl) ?_
    refine LJ_y rfl rfl (YJ_nilCheck rfl) ?_
    first | refine LJ_y rfl rfl (YJ_fieldOwn rfl fld_57_1 rfl) ?_ | refine LJ_y rfl rfl (YJ_fieldAddr rfl fld_57_1) ?_
    refine LJ_y rfl rfl (YJ_loadFactP (A := some ⟨B, 0, none⟩) (j := 1) rfl rfl tyi_54 (by repeat first | exact .head _ | apply List.Mem.tail) rfl) ?_
    refine LJ_y rfl rfl (YJ_len rfl ulen_54 rfl) ?_
    refine LJ_y rfl rfl (YJ_bin rfl rfl rfl) ?_
    refine LJ_y rfl rfl (YJ_pickF rfl rfl) ?_
    refine LJ_nil ?_
    refine QJ_then ?_
    refine CJ_cond rfl (fun h16 => ?_) (fun h16 => ?_)
    · try simp only [decide_eq_true_eq, decide_eq_false_iff_not, Bool.not_eq_true', Bool.not_eq_false', Bool.and_eq_true, Bool.and_eq_false_iff, beq_iff_eq, bne_iff_ne, beq_eq_false_iff_ne, bne_eq_false_iff_eq, ne_eq, decide_eq_decide] at h16
      refine CJ_seq ?_
      refine CJ_reg ?_
      refine LJ_y rfl rfl (YJ_assign rfl) ?_
      refine LJ_nil ?_
      refine QJ_then ?_
      refine CJ_ret ?_
      refine QJ_then_ret ?_
      refine QJ_fin (.inl rfl) (μ' := []) (μr := _) (φ' := []) (res_tmp rfl rfl) (List.Perm.refl _) (fun _ h => nomatch h) ?_
      exact ⟨congrArg Value.bool (decide_eq_false (not_real (.inr h16))).symm, rfl, rfl⟩
    · try simp only [decide_eq_true_eq, decide_eq_false_iff_not, Bool.not_eq_true', Bool.not_eq_false', Bool.and_eq_true, Bool.and_eq_false_iff, beq_iff_eq, bne_iff_ne, beq_eq_false_iff_ne, bne_eq_false_iff_eq, ne_eq, decide_eq_decide] at h16
      obtain ⟨t, ht⟩ := get_of_lt h8 h16
      have hi := real_iff h8 ht
      refine CJ_skip ?_
      refine QJ_then ?_
      refine CJ_seq ?_
      refine CJ_reg ?_
      refine LJ_y rfl rfl (YJ_move rfl) ?_
      refine LJ_y rfl rfl (YJ_nilCheck rfl) ?_
      first | refine LJ_y rfl rfl (YJ_fieldOwn rfl fld_57_1 rfl) ?_ | refine LJ_y rfl rfl (YJ_fieldAddr rfl fld_57_1) ?_
      refine LJ_y rfl rfl (YJ_loadFactP (A := some ⟨B, 0, none⟩) (j := 1) rfl rfl tyi_54 (by repeat first | exact .head _ | apply List.Mem.tail) rfl) ?_
      refine LJ_y rfl rfl (YJ_move rfl) ?_
      refine LJ_y rfl rfl (YJ_ixFact rfl rfl elt_54 (by repeat first | exact .head _ | apply List.Mem.tail) (by decide) (by omega) (by omega) (by omega)) ?_
      first | refine LJ_y rfl rfl (YJ_fieldOwn rfl fld_37_0 rfl) ?_ | refine LJ_y rfl rfl (YJ_fieldAddr rfl fld_37_0) ?_
      refine LJ_y rfl rfl (YJ_loadFactNP (A := h.T) (j := i.toNat * 9) (vs := [.int .i64 t.v0, .int .i64 t.v1, .int .i64 t.v2]) rfl (Addr.add_add ..) tyi_34 (by repeat first | exact .head _ | apply List.Mem.tail) (trCells_v ht) rfl) ?_
      refine LJ_alloc (cs := #[_, _, _]) rfl rfl zer_34 rfl ?_
      intro b1
      refine LJ_store (cs' := #[_, _, _]) (μ' := [_]) 0 rfl rfl rfl rfl tyi_34 rfl (Nat.le_of_ble_eq_true rfl) rfl rfl rfl ?_
      refine LJ_nil ?_
      refine QJ_then ?_
      refine CJ_seq ?_
      refine CJ_reg ?_
      first | refine LJ_y rfl rfl (YJ_ixArr rfl rfl arrt_34 (by omega) (by omega) rfl) ?_ | refine LJ_y rfl rfl (YJ_ixArrP rfl rfl arrt_34 (by omega) (by omega)) ?_
      first | refine LJ_y rfl rfl (YJ_loadL rfl tyi_3 (by repeat first | exact .head _ | apply List.Mem.tail) rfl) ?_ | refine LJ_y rfl rfl (YJ_loadFact rfl tyi_3 (by repeat first | exact .head _ | apply List.Mem.tail) rfl) ?_
      refine LJ_y rfl rfl (YJ_bin rfl rfl rfl) ?_
      refine LJ_y rfl rfl (YJ_move rfl) ?_
      refine LJ_boolC (fun h28 => ?_) (fun h28 => ?_)
      · try simp only [decide_eq_true_eq, decide_eq_false_iff_not, Bool.not_eq_true', Bool.not_eq_false', Bool.and_eq_true, Bool.and_eq_false_iff, beq_iff_eq, bne_iff_ne, beq_eq_false_iff_ne, bne_eq_false_iff_eq, ne_eq, decide_eq_decide] at h28
        first | refine LJ_y rfl rfl (YJ_ixArr rfl rfl arrt_34 (by omega) (by omega) rfl) ?_ | refine LJ_y rfl rfl (YJ_ixArrP rfl rfl arrt_34 (by omega) (by omega)) ?_
        first | refine LJ_y rfl rfl (YJ_loadL rfl tyi_3 (by repeat first | exact .head _ | apply List.Mem.tail) rfl) ?_ | refine LJ_y rfl rfl (YJ_loadFact rfl tyi_3 (by repeat first | exact .head _ | apply List.Mem.tail) rfl) ?_
        refine LJ_y rfl rfl (YJ_bin rfl rfl rfl) ?_
        refine LJ_y rfl rfl (YJ_pickT rfl rfl) ?_
        refine LJ_y rfl rfl (YJ_move rfl) ?_
        refine LJ_boolC (fun h33 => ?_) (fun h33 => ?_)
        · try simp only [decide_eq_true_eq, decide_eq_false_iff_not, Bool.not_eq_true', Bool.not_eq_false', Bool.and_eq_true, Bool.and_eq_false_iff, beq_iff_eq, bne_iff_ne, beq_eq_false_iff_ne, bne_eq_false_iff_eq, ne_eq, decide_eq_decide] at h33
          first | refine LJ_y rfl rfl (YJ_ixArr rfl rfl arrt_34 (by omega) (by omega) rfl) ?_ | refine LJ_y rfl rfl (YJ_ixArrP rfl rfl arrt_34 (by omega) (by omega)) ?_
          first | refine LJ_y rfl rfl (YJ_loadL rfl tyi_3 (by repeat first | exact .head _ | apply List.Mem.tail) rfl) ?_ | refine LJ_y rfl rfl (YJ_loadFact rfl tyi_3 (by repeat first | exact .head _ | apply List.Mem.tail) rfl) ?_
          refine LJ_y rfl rfl (YJ_bin rfl rfl rfl) ?_
          refine LJ_y rfl rfl (YJ_pickT rfl rfl) ?_
          refine LJ_y rfl rfl (YJ_assign rfl) ?_
          refine LJ_nil ?_
          refine QJ_then ?_
          refine CJ_ret ?_
          refine QJ_fin (.inl rfl) (μ' := []) (μr := _) (φ' := []) (res_tmp rfl rfl) (List.Perm.refl _) (fun _ h => nomatch h) ?_
          exact ⟨congrArg Value.bool (by first | (symm; rw [decide_eq_false_iff_not, hi]; unfold Tr.real; omega) | (symm; rw [decide_eq_decide, hi]; unfold Tr.real; omega)), rfl, rfl⟩
        · try simp only [decide_eq_true_eq, decide_eq_false_iff_not, Bool.not_eq_true', Bool.not_eq_false', Bool.and_eq_true, Bool.and_eq_false_iff, beq_iff_eq, bne_iff_ne, beq_eq_false_iff_ne, bne_eq_false_iff_eq, ne_eq, decide_eq_decide] at h33
          refine LJ_skip rfl rfl ?_
          refine LJ_skip rfl rfl ?_
          refine LJ_skip rfl rfl ?_
          refine LJ_y rfl rfl (YJ_pickF rfl rfl) ?_
          refine LJ_y rfl rfl (YJ_assign rfl) ?_
          refine LJ_nil ?_
          refine QJ_then ?_
          refine CJ_ret ?_
          refine QJ_fin (.inl rfl) (μ' := []) (μr := _) (φ' := []) (res_tmp rfl rfl) (List.Perm.refl _) (fun _ h => nomatch h) ?_
          exact ⟨congrArg Value.bool (by first | (symm; rw [decide_eq_false_iff_not, hi]; unfold Tr.real; omega) | (symm; rw [decide_eq_decide, hi]; unfold Tr.real; omega)), rfl, rfl⟩
      · try simp only [decide_eq_true_eq, decide_eq_false_iff_not, Bool.not_eq_true', Bool.not_eq_false', Bool.and_eq_true, Bool.and_eq_false_iff, beq_iff_eq, bne_iff_ne, beq_eq_false_iff_ne, bne_eq_false_iff_eq, ne_eq, decide_eq_decide] at h28
        refine LJ_skip rfl rfl ?_
        refine LJ_skip rfl rfl ?_
        refine LJ_skip rfl rfl ?_
        refine LJ_y rfl rfl (YJ_pickF rfl rfl) ?_
        refine LJ_y rfl rfl (YJ_move rfl) ?_
        refine LJ_skip rfl rfl ?_
        refine LJ_skip rfl rfl ?_
        refine LJ_skip rfl rfl ?_
        refine LJ_y rfl rfl (YJ_pickF rfl rfl) ?_
        refine LJ_y rfl rfl (YJ_assign rfl) ?_
        refine LJ_nil ?_
        refine QJ_then ?_
        refine CJ_ret ?_
        refine QJ_fin (.inl rfl) (μ' := []) (μr := _) (φ' := []) (res_tmp rfl rfl) (List.Perm.refl _) (fun _ h => nomatch h) ?_
        exact ⟨congrArg Value.bool (by first | (symm; rw [decide_eq_false_iff_not, hi]; unfold Tr.real; omega) | (symm; rw [decide_eq_decide, hi]; unfold Tr.real; omega)), rfl, rfl⟩


/-- the i-th of three -/
def at3 (a b c : Int) (i : Nat) : Int := if i = 0 then a else if i = 1 then b else c
def Tr.v (t : Tr) (i : Nat) : Int := at3 t.v0 t.v1 t.v2 i
def Tr.n (t : Tr) (i : Nat) : Int := at3 t.n0 t.n1 t.n2 i
def ptAt (pts : List (Int × Int)) (i : Int) : Int × Int := pts.getD i.toNat (0, 0)
def bey (pts : List (Int × Int)) (t : Tr) (i : Nat) (p : Int × Int) : Prop :=
  A2 (ptAt pts (t.v ((i + 1) % 3))).1 (ptAt pts (t.v ((i + 1) % 3))).2 (ptAt pts (t.v ((i + 2) % 3))).1 (ptAt pts (t.v ((i + 2) % 3))).2 p.1 p.2 < 0
instance (pts : List (Int × Int)) (t : Tr) (i : Nat) (p : Int × Int) : Decidable (bey pts t i p) := inferInstanceAs (Decidable (_ < _))



theorem sgn_lt0 {n : Int} : sgn n < 0 ↔ n < 0 := by have := sgn_cases n; omega


set_option maxRecDepth 100000 in
set_option maxHeartbeats 1000000 in
theorem beyond0_c {B : Nat} {h : Mh} {pts : List (Int × Int)} {tris : List Tr} {t : Tr} {p1 p2 : Int} (hP : ∀ j, j < pts.length → P2 (pts.getD j (0, 0)).1 (pts.getD j (0, 0)).2) (ha : 0 ≤ t.v1 ∧ t.v1 < pts.length) (hb : 0 ≤ t.v2 ∧ t.v2 < pts.length) (hp : P2 p1 p2) : Tri Try.prog 53 [.pointer (some ⟨B, 0, none⟩), .agg t.cells.toArray, .int .i64 0, ptv p1 p2] [] (meshFs B h pts tris) (Ret0 (.bool (decide (bey pts t 0 (p1, p2))))) := by
  refine Tri_of (N := 36) Try.func53 rfl ent_53 rfl rfl ?_
  intro w0 S0 T0
  show CJ _ _ _ [(0, _), (1, _), (2, _), (3, _)] _ _
  obtain ⟨ha0, ha1⟩ := ha
  obtain ⟨hb0, hb1⟩ := hb
  have hpa := hP (t.v1).toNat (by omega)
  have hpb := hP (t.v2).toNat (by omega)
  refine CJ_seq ?_
  refine CJ_reg ?_
  refine LJ_box (cs := #[_, _, _, _, _, _, _, _, _]) rfl rfl rfl rfl ?_
  intro b1
  refine LJ_box (cs := #[_, _]) rfl rfl rfl rfl ?_
  intro b2
  refine LJ_y rfl rfl (YJ_assign rfl) ?_
  refine LJ_nil ?_
  refine QJ_then ?_
  refine CJ_seq ?_
  refine CJ_regD mix (by kernel_rfl) (fun _ _ _ _ _ h => h) _ _ (fun _ h => h) (fun _ h => h) ?_
  refine AJ_y 0 rfl (by kernel_rfl) (by kernel_rfl) rfl rfl (YJ_move rfl) ?_
  refine AJ_y 1 rfl (by kernel_rfl) (by kernel_rfl) rfl rfl (YJ_nilCheck rfl) ?_
  first | refine AJ_y 2 rfl (by kernel_rfl) (by kernel_rfl) rfl rfl (YJ_fieldOwn rfl fld_57_0 rfl) ?_ | refine AJ_y 2 rfl (by kernel_rfl) (by kernel_rfl) rfl rfl (YJ_fieldAddr rfl fld_57_0) ?_
  refine AJ_y 3 rfl (by kernel_rfl) (by kernel_rfl) rfl rfl (YJ_loadFactP (A := some ⟨B, 0, none⟩) (j := 0) rfl rfl tyi_26 (by repeat first | exact .head _ | apply List.Mem.tail) rfl) ?_
  refine AJ_y 4 rfl (by kernel_rfl) (by kernel_rfl) rfl rfl (YJ_move rfl) ?_
  first | refine AJ_y 5 rfl (by kernel_rfl) (by kernel_rfl) rfl rfl (YJ_bin rfl rfl (iop_add (by omega))) ?_ | refine AJ_y 5 rfl (by kernel_rfl) (by kernel_rfl) rfl rfl (YJ_bin rfl rfl rfl) ?_
  refine AJ_y 6 rfl (by kernel_rfl) (by kernel_rfl) rfl rfl (YJ_rem rfl rfl (by first | decide | omega)) ?_
  refine AJ_val (v := .int .i64 1) (rfl) ?_
  first | refine AJ_y 7 rfl (by kernel_rfl) (by kernel_rfl) rfl rfl (YJ_fieldOwn rfl fld_37_0 rfl) ?_ | refine AJ_y 7 rfl (by kernel_rfl) (by kernel_rfl) rfl rfl (YJ_fieldAddr rfl fld_37_0) ?_
  first | refine AJ_y 8 rfl (by kernel_rfl) (by kernel_rfl) rfl rfl (YJ_ixArr rfl rfl arrt_34 (by omega) (by omega) rfl) ?_ | refine AJ_y 8 rfl (by kernel_rfl) (by kernel_rfl) rfl rfl (YJ_ixArrP rfl rfl arrt_34 (by omega) (by omega)) ?_
  first | refine AJ_y 9 rfl (by kernel_rfl) (by kernel_rfl) rfl rfl (YJ_loadL rfl tyi_3 (by repeat first | exact .head _ | apply List.Mem.tail) rfl) ?_ | refine AJ_y 9 rfl (by kernel_rfl) (by kernel_rfl) rfl rfl (YJ_loadFact rfl tyi_3 (by repeat first | exact .head _ | apply List.Mem.tail) rfl) ?_
  refine AJ_y 10 rfl (by kernel_rfl) (by kernel_rfl) rfl rfl (YJ_ixFact rfl rfl elt_26 (by repeat first | exact .head _ | apply List.Mem.tail) (by decide) (by omega) (by omega) (by omega)) ?_
  refine AJ_y 11 rfl (by kernel_rfl) (by kernel_rfl) rfl rfl (YJ_loadFactN (vs := [_, _]) (xs := ptCells pts) rfl tyi_23 (by repeat first | exact .head _ | apply List.Mem.tail) (ptCells_get (i := (t.v1).toNat) (by omega)) rfl) ?_
  refine AJ_y 12 rfl (by kernel_rfl) (by kernel_rfl) rfl rfl (YJ_move rfl) ?_
  refine AJ_y 13 rfl (by kernel_rfl) (by kernel_rfl) rfl rfl (YJ_nilCheck rfl) ?_
  first | refine AJ_y 14 rfl (by kernel_rfl) (by kernel_rfl) rfl rfl (YJ_fieldOwn rfl fld_57_0 rfl) ?_ | refine AJ_y 14 rfl (by kernel_rfl) (by kernel_rfl) rfl rfl (YJ_fieldAddr rfl fld_57_0) ?_
  refine AJ_y 15 rfl (by kernel_rfl) (by kernel_rfl) rfl rfl (YJ_loadFactP (A := some ⟨B, 0, none⟩) (j := 0) rfl rfl tyi_26 (by repeat first | exact .head _ | apply List.Mem.tail) rfl) ?_
  refine AJ_y 16 rfl (by kernel_rfl) (by kernel_rfl) rfl rfl (YJ_move rfl) ?_
  first | refine AJ_y 17 rfl (by kernel_rfl) (by kernel_rfl) rfl rfl (YJ_bin rfl rfl (iop_add (by omega))) ?_ | refine AJ_y 17 rfl (by kernel_rfl) (by kernel_rfl) rfl rfl (YJ_bin rfl rfl rfl) ?_
  refine AJ_y 18 rfl (by kernel_rfl) (by kernel_rfl) rfl rfl (YJ_rem rfl rfl (by first | decide | omega)) ?_
  refine AJ_val (v := .int .i64 2) (rfl) ?_
  first | refine AJ_y 19 rfl (by kernel_rfl) (by kernel_rfl) rfl rfl (YJ_fieldOwn rfl fld_37_0 rfl) ?_ | refine AJ_y 19 rfl (by kernel_rfl) (by kernel_rfl) rfl rfl (YJ_fieldAddr rfl fld_37_0) ?_
  first | refine AJ_y 20 rfl (by kernel_rfl) (by kernel_rfl) rfl rfl (YJ_ixArr rfl rfl arrt_34 (by omega) (by omega) rfl) ?_ | refine AJ_y 20 rfl (by kernel_rfl) (by kernel_rfl) rfl rfl (YJ_ixArrP rfl rfl arrt_34 (by omega) (by omega)) ?_
  first | refine AJ_y 21 rfl (by kernel_rfl) (by kernel_rfl) rfl rfl (YJ_loadL rfl tyi_3 (by repeat first | exact .head _ | apply List.Mem.tail) rfl) ?_ | refine AJ_y 21 rfl (by kernel_rfl) (by kernel_rfl) rfl rfl (YJ_loadFact rfl tyi_3 (by repeat first | exact .head _ | apply List.Mem.tail) rfl) ?_
  refine AJ_y 22 rfl (by kernel_rfl) (by kernel_rfl) rfl rfl (YJ_ixFact rfl rfl elt_26 (by repeat first | exact .head _ | apply List.Mem.tail) (by decide) (by omega) (by omega) (by omega)) ?_
  refine AJ_y 23 rfl (by kernel_rfl) (by kernel_rfl) rfl rfl (YJ_loadFactN (vs := [_, _]) (xs := ptCells pts) rfl tyi_23 (by repeat first | exact .head _ | apply List.Mem.tail) (ptCells_get (i := (t.v2).toNat) (by omega)) rfl) ?_
  first | refine AJ_y 24 rfl (by kernel_rfl) (by kernel_rfl) rfl rfl (YJ_loadN (vs := [_, _]) rfl tyi_23 (by repeat first | exact .head _ | apply List.Mem.tail) rfl rfl) ?_ | refine AJ_y 24 rfl (by kernel_rfl) (by kernel_rfl) rfl rfl (YJ_loadFactN (vs := [_, _]) rfl tyi_23 (by repeat first | exact .head _ | apply List.Mem.tail) rfl rfl) ?_
  refine AJ_call0 25 rfl (by kernel_rfl) rfl rfl rfl rfl rfl (orient_c hpa hpb hp) (AllIn.sub (by first | exact trivial | exact And.intro (by repeat first | exact .head _ | apply List.Mem.tail) trivial | exact And.intro (by repeat first | exact .head _ | apply List.Mem.tail) (And.intro (by repeat first | exact .head _ | apply List.Mem.tail) trivial))) ?_
  refine AJ_y 26 rfl (by kernel_rfl) (by kernel_rfl) rfl rfl (YJ_bin rfl rfl rfl) ?_
  refine AJ_y 27 rfl (by kernel_rfl) (by kernel_rfl) rfl rfl (YJ_assign rfl) ?_
  refine AJ_done (by kernel_rfl) ?_
  refine QJ_then ?_
  refine CJ_ret ?_
  refine QJ_fin (.inl rfl) (μ' := []) (μr := _) (φ' := []) (res_tmp rfl rfl) (List.Perm.refl _) (fun _ h => nomatch h) ?_
  exact ⟨congrArg Value.bool (decide_eq_decide.2 sgn_lt0), rfl, rfl⟩

set_option maxRecDepth 100000 in
set_option maxHeartbeats 1000000 in
theorem beyond1_c {B : Nat} {h : Mh} {pts : List (Int × Int)} {tris : List Tr} {t : Tr} {p1 p2 : Int} (hP : ∀ j, j < pts.length → P2 (pts.getD j (0, 0)).1 (pts.getD j (0, 0)).2) (ha : 0 ≤ t.v2 ∧ t.v2 < pts.length) (hb : 0 ≤ t.v0 ∧ t.v0 < pts.length) (hp : P2 p1 p2) : Tri Try.prog 53 [.pointer (some ⟨B, 0, none⟩), .agg t.cells.toArray, .int .i64 1, ptv p1 p2] [] (meshFs B h pts tris) (Ret0 (.bool (decide (bey pts t 1 (p1, p2))))) := by
  refine Tri_of (N := 36) Try.func53 rfl ent_53 rfl rfl ?_
  intro w0 S0 T0
  show CJ _ _ _ [(0, _), (1, _), (2, _), (3, _)] _ _
  obtain ⟨ha0, ha1⟩ := ha
  obtain ⟨hb0, hb1⟩ := hb
  have hpa := hP (t.v2).toNat (by omega)
  have hpb := hP (t.v0).toNat (by omega)
  refine CJ_seq ?_
  refine CJ_reg ?_
  refine LJ_box (cs := #[_, _, _, _, _, _, _, _, _]) rfl rfl rfl rfl ?_
  intro b1
  refine LJ_box (cs := #[_, _]) rfl rfl rfl rfl ?_
  intro b2
  refine LJ_y rfl rfl (YJ_assign rfl) ?_
  refine LJ_nil ?_
  refine QJ_then ?_
  refine CJ_seq ?_
  refine CJ_regD mix (by kernel_rfl) (fun _ _ _ _ _ h => h) _ _ (fun _ h => h) (fun _ h => h) ?_
  refine AJ_y 0 rfl (by kernel_rfl) (by kernel_rfl) rfl rfl (YJ_move rfl) ?_
  refine AJ_y 1 rfl (by kernel_rfl) (by kernel_rfl) rfl rfl (YJ_nilCheck rfl) ?_
  first | refine AJ_y 2 rfl (by kernel_rfl) (by kernel_rfl) rfl rfl (YJ_fieldOwn rfl fld_57_0 rfl) ?_ | refine AJ_y 2 rfl (by kernel_rfl) (by kernel_rfl) rfl rfl (YJ_fieldAddr rfl fld_57_0) ?_
  refine AJ_y 3 rfl (by kernel_rfl) (by kernel_rfl) rfl rfl (YJ_loadFactP (A := some ⟨B, 0, none⟩) (j := 0) rfl rfl tyi_26 (by repeat first | exact .head _ | apply List.Mem.tail) rfl) ?_
  refine AJ_y 4 rfl (by kernel_rfl) (by kernel_rfl) rfl rfl (YJ_move rfl) ?_
  first | refine AJ_y 5 rfl (by kernel_rfl) (by kernel_rfl) rfl rfl (YJ_bin rfl rfl (iop_add (by omega))) ?_ | refine AJ_y 5 rfl (by kernel_rfl) (by kernel_rfl) rfl rfl (YJ_bin rfl rfl rfl) ?_
  refine AJ_y 6 rfl (by kernel_rfl) (by kernel_rfl) rfl rfl (YJ_rem rfl rfl (by first | decide | omega)) ?_
  refine AJ_val (v := .int .i64 2) (rfl) ?_
  first | refine AJ_y 7 rfl (by kernel_rfl) (by kernel_rfl) rfl rfl (YJ_fieldOwn rfl fld_37_0 rfl) ?_ | refine AJ_y 7 rfl (by kernel_rfl) (by kernel_rfl) rfl rfl (YJ_fieldAddr rfl fld_37_0) ?_
  first | refine AJ_y 8 rfl (by kernel_rfl) (by kernel_rfl) rfl rfl (YJ_ixArr rfl rfl arrt_34 (by omega) (by omega) rfl) ?_ | refine AJ_y 8 rfl (by kernel_rfl) (by kernel_rfl) rfl rfl (YJ_ixArrP rfl rfl arrt_34 (by omega) (by omega)) ?_
  first | refine AJ_y 9 rfl (by kernel_rfl) (by kernel_rfl) rfl rfl (YJ_loadL rfl tyi_3 (by repeat first | exact .head _ | apply List.Mem.tail) rfl) ?_ | refine AJ_y 9 rfl (by kernel_rfl) (by kernel_rfl) rfl rfl (YJ_loadFact rfl tyi_3 (by repeat first | exact .head _ | apply List.Mem.tail) rfl) ?_
  refine AJ_y 10 rfl (by kernel_rfl) (by kernel_rfl) rfl rfl (YJ_ixFact rfl rfl elt_26 (by repeat first | exact .head _ | apply List.Mem.tail) (by decide) (by omega) (by omega) (by omega)) ?_
  refine AJ_y 11 rfl (by kernel_rfl) (by kernel_rfl) rfl rfl (YJ_loadFactN (vs := [_, _]) (xs := ptCells pts) rfl tyi_23 (by repeat first | exact .head _ | apply List.Mem.tail) (ptCells_get (i := (t.v2).toNat) (by omega)) rfl) ?_
  refine AJ_y 12 rfl (by kernel_rfl) (by kernel_rfl) rfl rfl (YJ_move rfl) ?_
  refine AJ_y 13 rfl (by kernel_rfl) (by kernel_rfl) rfl rfl (YJ_nilCheck rfl) ?_
  first | refine AJ_y 14 rfl (by kernel_rfl) (by kernel_rfl) rfl rfl (YJ_fieldOwn rfl fld_57_0 rfl) ?_ | refine AJ_y 14 rfl (by kernel_rfl) (by kernel_rfl) rfl rfl (YJ_fieldAddr rfl fld_57_0) ?_
  refine AJ_y 15 rfl (by kernel_rfl) (by kernel_rfl) rfl rfl (YJ_loadFactP (A := some ⟨B, 0, none⟩) (j := 0) rfl rfl tyi_26 (by repeat first | exact .head _ | apply List.Mem.tail) rfl) ?_
  refine AJ_y 16 rfl (by kernel_rfl) (by kernel_rfl) rfl rfl (YJ_move rfl) ?_
  first | refine AJ_y 17 rfl (by kernel_rfl) (by kernel_rfl) rfl rfl (YJ_bin rfl rfl (iop_add (by omega))) ?_ | refine AJ_y 17 rfl (by kernel_rfl) (by kernel_rfl) rfl rfl (YJ_bin rfl rfl rfl) ?_
  refine AJ_y 18 rfl (by kernel_rfl) (by kernel_rfl) rfl rfl (YJ_rem rfl rfl (by first | decide | omega)) ?_
  refine AJ_val (v := .int .i64 0) (rfl) ?_
  first | refine AJ_y 19 rfl (by kernel_rfl) (by kernel_rfl) rfl rfl (YJ_fieldOwn rfl fld_37_0 rfl) ?_ | refine AJ_y 19 rfl (by kernel_rfl) (by kernel_rfl) rfl rfl (YJ_fieldAddr rfl fld_37_0) ?_
  first | refine AJ_y 20 rfl (by kernel_rfl) (by kernel_rfl) rfl rfl (YJ_ixArr rfl rfl arrt_34 (by omega) (by omega) rfl) ?_ | refine AJ_y 20 rfl (by kernel_rfl) (by kernel_rfl) rfl rfl (YJ_ixArrP rfl rfl arrt_34 (by omega) (by omega)) ?_
  first | refine AJ_y 21 rfl (by kernel_rfl) (by kernel_rfl) rfl rfl (YJ_loadL rfl tyi_3 (by repeat first | exact .head _ | apply List.Mem.tail) rfl) ?_ | refine AJ_y 21 rfl (by kernel_rfl) (by kernel_rfl) rfl rfl (YJ_loadFact rfl tyi_3 (by repeat first | exact .head _ | apply List.Mem.tail) rfl) ?_
  refine AJ_y 22 rfl (by kernel_rfl) (by kernel_rfl) rfl rfl (YJ_ixFact rfl rfl elt_26 (by repeat first | exact .head _ | apply List.Mem.tail) (by decide) (by omega) (by omega) (by omega)) ?_
  refine AJ_y 23 rfl (by kernel_rfl) (by kernel_rfl) rfl rfl (YJ_loadFactN (vs := [_, _]) (xs := ptCells pts) rfl tyi_23 (by repeat first | exact .head _ | apply List.Mem.tail) (ptCells_get (i := (t.v0).toNat) (by omega)) rfl) ?_
  first | refine AJ_y 24 rfl (by kernel_rfl) (by kernel_rfl) rfl rfl (YJ_loadN (vs := [_, _]) rfl tyi_23 (by repeat first | exact .head _ | apply List.Mem.tail) rfl rfl) ?_ | refine AJ_y 24 rfl (by kernel_rfl) (by kernel_rfl) rfl rfl (YJ_loadFactN (vs := [_, _]) rfl tyi_23 (by repeat first | exact .head _ | apply List.Mem.tail) rfl rfl) ?_
  refine AJ_call0 25 rfl (by kernel_rfl) rfl rfl rfl rfl rfl (orient_c hpa hpb hp) (AllIn.sub (by first | exact trivial | exact And.intro (by repeat first | exact .head _ | apply List.Mem.tail) trivial | exact And.intro (by repeat first | exact .head _ | apply List.Mem.tail) (And.intro (by repeat first | exact .head _ | apply List.Mem.tail) trivial))) ?_
  refine AJ_y 26 rfl (by kernel_rfl) (by kernel_rfl) rfl rfl (YJ_bin rfl rfl rfl) ?_
  refine AJ_y 27 rfl (by kernel_rfl) (by kernel_rfl) rfl rfl (YJ_assign rfl) ?_
  refine AJ_done (by kernel_rfl) ?_
  refine QJ_then ?_
  refine CJ_ret ?_
  refine QJ_fin (.inl rfl) (μ' := []) (μr := _) (φ' := []) (res_tmp rfl rfl) (List.Perm.refl _) (fun _ h => nomatch h) ?_
  exact ⟨congrArg Value.bool (decide_eq_decide.2 sgn_lt0), rfl, rfl⟩

set_option maxRecDepth 100000 in
set_option maxHeartbeats 1000000 in
theorem beyond2_c {B : Nat} {h : Mh} {pts : List (Int × Int)} {tris : List Tr} {t : Tr} {p1 p2 : Int} (hP : ∀ j, j < pts.length → P2 (pts.getD j (0, 0)).1 (pts.getD j (0, 0)).2) (ha : 0 ≤ t.v0 ∧ t.v0 < pts.length) (hb : 0 ≤ t.v1 ∧ t.v1 < pts.length) (hp : P2 p1 p2) : Tri Try.prog 53 [.pointer (some ⟨B, 0, none⟩), .agg t.cells.toArray, .int .i64 2, ptv p1 p2] [] (meshFs B h pts tris) (Ret0 (.bool (decide (bey pts t 2 (p1, p2))))) := by
  refine Tri_of (N := 36) Try.func53 rfl ent_53 rfl rfl ?_
  intro w0 S0 T0
  show CJ _ _ _ [(0, _), (1, _), (2, _), (3, _)] _ _
  obtain ⟨ha0, ha1⟩ := ha
  obtain ⟨hb0, hb1⟩ := hb
  have hpa := hP (t.v0).toNat (by omega)
  have hpb := hP (t.v1).toNat (by omega)
  refine CJ_seq ?_
  refine CJ_reg ?_
  refine LJ_box (cs := #[_, _, _, _, _, _, _, _, _]) rfl rfl rfl rfl ?_
  intro b1
  refine LJ_box (cs := #[_, _]) rfl rfl rfl rfl ?_
  intro b2
  refine LJ_y rfl rfl (YJ_assign rfl) ?_
  refine LJ_nil ?_
  refine QJ_then ?_
  refine CJ_seq ?_
  refine CJ_regD mix (by kernel_rfl) (fun _ _ _ _ _ h => h) _ _ (fun _ h => h) (fun _ h => h) ?_
  refine AJ_y 0 rfl (by kernel_rfl) (by kernel_rfl) rfl rfl (YJ_move rfl) ?_
  refine AJ_y 1 rfl (by kernel_rfl) (by kernel_rfl) rfl rfl (YJ_nilCheck rfl) ?_
  first | refine AJ_y 2 rfl (by kernel_rfl) (by kernel_rfl) rfl rfl (YJ_fieldOwn rfl fld_57_0 rfl) ?_ | refine AJ_y 2 rfl (by kernel_rfl) (by kernel_rfl) rfl rfl (YJ_fieldAddr rfl fld_57_0) ?_
  refine AJ_y 3 rfl (by kernel_rfl) (by kernel_rfl) rfl rfl (YJ_loadFactP (A := some ⟨B, 0, none⟩) (j := 0) rfl rfl tyi_26 (by repeat first | exact .head _ | apply List.Mem.tail) rfl) ?_
  refine AJ_y 4 rfl (by kernel_rfl) (by kernel_rfl) rfl rfl (YJ_move rfl) ?_
  first | refine AJ_y 5 rfl (by kernel_rfl) (by kernel_rfl) rfl rfl (YJ_bin rfl rfl (iop_add (by omega))) ?_ | refine AJ_y 5 rfl (by kernel_rfl) (by kernel_rfl) rfl rfl (YJ_bin rfl rfl rfl) ?_
  refine AJ_y 6 rfl (by kernel_rfl) (by kernel_rfl) rfl rfl (YJ_rem rfl rfl (by first | decide | omega)) ?_
  refine AJ_val (v := .int .i64 0) (rfl) ?_
  first | refine AJ_y 7 rfl (by kernel_rfl) (by kernel_rfl) rfl rfl (YJ_fieldOwn rfl fld_37_0 rfl) ?_ | refine AJ_y 7 rfl (by kernel_rfl) (by kernel_rfl) rfl rfl (YJ_fieldAddr rfl fld_37_0) ?_
  first | refine AJ_y 8 rfl (by kernel_rfl) (by kernel_rfl) rfl rfl (YJ_ixArr rfl rfl arrt_34 (by omega) (by omega) rfl) ?_ | refine AJ_y 8 rfl (by kernel_rfl) (by kernel_rfl) rfl rfl (YJ_ixArrP rfl rfl arrt_34 (by omega) (by omega)) ?_
  first | refine AJ_y 9 rfl (by kernel_rfl) (by kernel_rfl) rfl rfl (YJ_loadL rfl tyi_3 (by repeat first | exact .head _ | apply List.Mem.tail) rfl) ?_ | refine AJ_y 9 rfl (by kernel_rfl) (by kernel_rfl) rfl rfl (YJ_loadFact rfl tyi_3 (by repeat first | exact .head _ | apply List.Mem.tail) rfl) ?_
  refine AJ_y 10 rfl (by kernel_rfl) (by kernel_rfl) rfl rfl (YJ_ixFact rfl rfl elt_26 (by repeat first | exact .head _ | apply List.Mem.tail) (by decide) (by omega) (by omega) (by omega)) ?_
  refine AJ_y 11 rfl (by kernel_rfl) (by kernel_rfl) rfl rfl (YJ_loadFactN (vs := [_, _]) (xs := ptCells pts) rfl tyi_23 (by repeat first | exact .head _ | apply List.Mem.tail) (ptCells_get (i := (t.v0).toNat) (by omega)) rfl) ?_
  refine AJ_y 12 rfl (by kernel_rfl) (by kernel_rfl) rfl rfl (YJ_move rfl) ?_
  refine AJ_y 13 rfl (by kernel_rfl) (by kernel_rfl) rfl rfl (YJ_nilCheck rfl) ?_
  first | refine AJ_y 14 rfl (by kernel_rfl) (by kernel_rfl) rfl rfl (YJ_fieldOwn rfl fld_57_0 rfl) ?_ | refine AJ_y 14 rfl (by kernel_rfl) (by kernel_rfl) rfl rfl (YJ_fieldAddr rfl fld_57_0) ?_
  refine AJ_y 15 rfl (by kernel_rfl) (by kernel_rfl) rfl rfl (YJ_loadFactP (A := some ⟨B, 0, none⟩) (j := 0) rfl rfl tyi_26 (by repeat first | exact .head _ | apply List.Mem.tail) rfl) ?_
  refine AJ_y 16 rfl (by kernel_rfl) (by kernel_rfl) rfl rfl (YJ_move rfl) ?_
  first | refine AJ_y 17 rfl (by kernel_rfl) (by kernel_rfl) rfl rfl (YJ_bin rfl rfl (iop_add (by omega))) ?_ | refine AJ_y 17 rfl (by kernel_rfl) (by kernel_rfl) rfl rfl (YJ_bin rfl rfl rfl) ?_
  refine AJ_y 18 rfl (by kernel_rfl) (by kernel_rfl) rfl rfl (YJ_rem rfl rfl (by first | decide | omega)) ?_
  refine AJ_val (v := .int .i64 1) (rfl) ?_
  first | refine AJ_y 19 rfl (by kernel_rfl) (by kernel_rfl) rfl rfl (YJ_fieldOwn rfl fld_37_0 rfl) ?_ | refine AJ_y 19 rfl (by kernel_rfl) (by kernel_rfl) rfl rfl (YJ_fieldAddr rfl fld_37_0) ?_
  first | refine AJ_y 20 rfl (by kernel_rfl) (by kernel_rfl) rfl rfl (YJ_ixArr rfl rfl arrt_34 (by omega) (by omega) rfl) ?_ | refine AJ_y 20 rfl (by kernel_rfl) (by kernel_rfl) rfl rfl (YJ_ixArrP rfl rfl arrt_34 (by omega) (by omega)) ?_
  first | refine AJ_y 21 rfl (by kernel_rfl) (by kernel_rfl) rfl rfl (YJ_loadL rfl tyi_3 (by repeat first | exact .head _ | apply List.Mem.tail) rfl) ?_ | refine AJ_y 21 rfl (by kernel_rfl) (by kernel_rfl) rfl rfl (YJ_loadFact rfl tyi_3 (by repeat first | exact .head _ | apply List.Mem.tail) rfl) ?_
  refine AJ_y 22 rfl (by kernel_rfl) (by kernel_rfl) rfl rfl (YJ_ixFact rfl rfl elt_26 (by repeat first | exact .head _ | apply List.Mem.tail) (by decide) (by omega) (by omega) (by omega)) ?_
  refine AJ_y 23 rfl (by kernel_rfl) (by kernel_rfl) rfl rfl (YJ_loadFactN (vs := [_, _]) (xs := ptCells pts) rfl tyi_23 (by repeat first | exact .head _ | apply List.Mem.tail) (ptCells_get (i := (t.v1).toNat) (by omega)) rfl) ?_
  first | refine AJ_y 24 rfl (by kernel_rfl) (by kernel_rfl) rfl rfl (YJ_loadN (vs := [_, _]) rfl tyi_23 (by repeat first | exact .head _ | apply List.Mem.tail) rfl rfl) ?_ | refine AJ_y 24 rfl (by kernel_rfl) (by kernel_rfl) rfl rfl (YJ_loadFactN (vs := [_, _]) rfl tyi_23 (by repeat first | exact .head _ | apply List.Mem.tail) rfl rfl) ?_
  refine AJ_call0 25 rfl (by kernel_rfl) rfl rfl rfl rfl rfl (orient_c hpa hpb hp) (AllIn.sub (by first | exact trivial | exact And.intro (by repeat first | exact .head _ | apply List.Mem.tail) trivial | exact And.intro (by repeat first | exact .head _ | apply List.Mem.tail) (And.intro (by repeat first | exact .head _ | apply List.Mem.tail) trivial))) ?_
  refine AJ_y 26 rfl (by kernel_rfl) (by kernel_rfl) rfl rfl (YJ_bin rfl rfl rfl) ?_
  refine AJ_y 27 rfl (by kernel_rfl) (by kernel_rfl) rfl rfl (YJ_assign rfl) ?_
  refine AJ_done (by kernel_rfl) ?_
  refine QJ_then ?_
  refine CJ_ret ?_
  refine QJ_fin (.inl rfl) (μ' := []) (μr := _) (φ' := []) (res_tmp rfl rfl) (List.Perm.refl _) (fun _ h => nomatch h) ?_
  exact ⟨congrArg Value.bool (decide_eq_decide.2 sgn_lt0), rfl, rfl⟩


/-- the points of a triangle are points of the mesh -/
def Tr.ok (t : Tr) (n : Nat) : Prop := (0 ≤ t.v0 ∧ t.v0 < n) ∧ (0 ≤ t.v1 ∧ t.v1 < n) ∧ (0 ≤ t.v2 ∧ t.v2 < n)
def hld (pts : List (Int × Int)) (t : Tr) (p : Int × Int) : Prop := ¬ bey pts t 0 p ∧ ¬ bey pts t 1 p ∧ ¬ bey pts t 2 p
instance (pts : List (Int × Int)) (t : Tr) (p : Int × Int) : Decidable (hld pts t p) := inferInstanceAs (Decidable (_ ∧ _))


set_option maxRecDepth 100000 in
set_option maxHeartbeats 1000000 in
theorem holds_c {B : Nat} {h : Mh} {pts : List (Int × Int)} {tris : List Tr} {t : Tr} {i : Int} {p1 p2 : Int} (hP : ∀ j, j < pts.length → P2 (pts.getD j (0, 0)).1 (pts.getD j (0, 0)).2) (hi : 0 ≤ i) (ht : tris[i.toNat]? = some t) (hv : t.ok pts.length) (hp : P2 p1 p2) : Tri Try.prog 21 [.pointer (some ⟨B, 0, none⟩), .int .i64 i, ptv p1 p2] [] (meshFs B h pts tris) (Ret0 (.bool (decide (hld pts t (p1, p2))))) := by
  refine Tri_of (N := 34) Try.func21 rfl ent_21 rfl rfl ?_
  intro w0 S0 T0
  show CJ _ _ _ [(0, _), (1, _), (2, _)] _ _
  have hlen : i.toNat < tris.length := by
    rcases Nat.lt_or_ge i.toNat tris.length with q | q
    · exact q
    · rw [List.getElem?_eq_none q] at ht; cases ht
  obtain ⟨v0, v1, v2⟩ := hv
  refine CJ_seq ?_
  refine CJ_reg ?_
  refine LJ_box (cs := #[_, _]) rfl rfl rfl rfl ?_
  intro b1
  refine LJ_y rfl rfl (YJ_assign rfl) ?_
  refine LJ_nil ?_
  refine QJ_then ?_
  refine CJ_seq ?_
  refine CJ_reg ?_
  refine LJ_y rfl rfl (YJ_move rfl) ?_
  refine LJ_y rfl rfl (YJ_nilCheck rfl) ?_
  first | refine LJ_y rfl rfl (YJ_fieldOwn rfl fld_57_1 rfl) ?_ | refine LJ_y rfl rfl (YJ_fieldAddr rfl fld_57_1) ?_
  refine LJ_y rfl rfl (YJ_loadFactP (A := some ⟨B, 0, none⟩) (j := 1) rfl rfl tyi_54 (by repeat first | exact .head _ | apply List.Mem.tail) rfl) ?_
  refine LJ_y rfl rfl (YJ_move rfl) ?_
  refine LJ_y rfl rfl (YJ_ixFact rfl rfl elt_54 (by repeat first | exact .head _ | apply List.Mem.tail) (by decide) (by omega) (by omega) (by omega)) ?_
  refine LJ_y rfl rfl (YJ_loadFactN (vs := [.int .i64 t.v0, .int .i64 t.v1, .int .i64 t.v2, .int .i64 t.n0, .int .i64 t.n1, .int .i64 t.n2, .bool t.f0, .bool t.f1, .bool t.f2]) (xs := trCells tris) rfl tyi_37 (by repeat first | exact .head _ | apply List.Mem.tail) (trCells_row ht) rfl) ?_
  refine LJ_alloc (cs := #[_, _, _, _, _, _, _, _, _]) rfl rfl zer_37 rfl ?_
  intro b2
  refine LJ_store (cs' := #[_, _, _, _, _, _, _, _, _]) (μ' := [_, _]) 0 rfl rfl rfl rfl tyi_37 rfl (Nat.le_of_ble_eq_true rfl) rfl (wr_all rfl) rfl ?_
  refine LJ_nil ?_
  refine QJ_then ?_
  refine CJ_seq ?_
  refine CJ_reg ?_
  refine LJ_y rfl rfl (YJ_move rfl) ?_
  first | refine LJ_y rfl rfl (YJ_loadN (vs := [_, _, _, _, _, _, _, _, _]) rfl tyi_37 (by repeat first | exact .head _ | apply List.Mem.tail) rfl rfl) ?_ | refine LJ_y rfl rfl (YJ_loadFactN (vs := [_, _, _, _, _, _, _, _, _]) rfl tyi_37 (by repeat first | exact .head _ | apply List.Mem.tail) rfl rfl) ?_
  first | refine LJ_y rfl rfl (YJ_loadN (vs := [_, _]) rfl tyi_23 (by repeat first | exact .head _ | apply List.Mem.tail) rfl rfl) ?_ | refine LJ_y rfl rfl (YJ_loadFactN (vs := [_, _]) rfl tyi_23 (by repeat first | exact .head _ | apply List.Mem.tail) rfl rfl) ?_
  refine LJ_call0 rfl rfl rfl rfl rfl (beyond0_c (h := h) (tris := tris) hP v1 v2 hp) (fun _ h => h) ?_
  refine LJ_y rfl rfl (YJ_not rfl) ?_
  refine LJ_y rfl rfl (YJ_move rfl) ?_
  refine LJ_boolC (fun h20 => ?_) (fun h20 => ?_)
  · try simp only [decide_eq_true_eq, decide_eq_false_iff_not, Bool.not_eq_true', Bool.not_eq_false', Bool.and_eq_true, Bool.and_eq_false_iff, beq_iff_eq, bne_iff_ne, beq_eq_false_iff_ne, bne_eq_false_iff_eq, ne_eq, decide_eq_decide] at h20
    refine LJ_y rfl rfl (YJ_move rfl) ?_
    first | refine LJ_y rfl rfl (YJ_loadN (vs := [_, _, _, _, _, _, _, _, _]) rfl tyi_37 (by repeat first | exact .head _ | apply List.Mem.tail) rfl rfl) ?_ | refine LJ_y rfl rfl (YJ_loadFactN (vs := [_, _, _, _, _, _, _, _, _]) rfl tyi_37 (by repeat first | exact .head _ | apply List.Mem.tail) rfl rfl) ?_
    first | refine LJ_y rfl rfl (YJ_loadN (vs := [_, _]) rfl tyi_23 (by repeat first | exact .head _ | apply List.Mem.tail) rfl rfl) ?_ | refine LJ_y rfl rfl (YJ_loadFactN (vs := [_, _]) rfl tyi_23 (by repeat first | exact .head _ | apply List.Mem.tail) rfl rfl) ?_
    refine LJ_call0 rfl rfl rfl rfl rfl (beyond1_c (h := h) (tris := tris) hP v2 v0 hp) (fun _ h => h) ?_
    refine LJ_y rfl rfl (YJ_not rfl) ?_
    refine LJ_y rfl rfl (YJ_pickT rfl rfl) ?_
    refine LJ_y rfl rfl (YJ_move rfl) ?_
    refine LJ_boolC (fun h27 => ?_) (fun h27 => ?_)
    · try simp only [decide_eq_true_eq, decide_eq_false_iff_not, Bool.not_eq_true', Bool.not_eq_false', Bool.and_eq_true, Bool.and_eq_false_iff, beq_iff_eq, bne_iff_ne, beq_eq_false_iff_ne, bne_eq_false_iff_eq, ne_eq, decide_eq_decide] at h27
      refine LJ_y rfl rfl (YJ_move rfl) ?_
      first | refine LJ_y rfl rfl (YJ_loadN (vs := [_, _, _, _, _, _, _, _, _]) rfl tyi_37 (by repeat first | exact .head _ | apply List.Mem.tail) rfl rfl) ?_ | refine LJ_y rfl rfl (YJ_loadFactN (vs := [_, _, _, _, _, _, _, _, _]) rfl tyi_37 (by repeat first | exact .head _ | apply List.Mem.tail) rfl rfl) ?_
      first | refine LJ_y rfl rfl (YJ_loadN (vs := [_, _]) rfl tyi_23 (by repeat first | exact .head _ | apply List.Mem.tail) rfl rfl) ?_ | refine LJ_y rfl rfl (YJ_loadFactN (vs := [_, _]) rfl tyi_23 (by repeat first | exact .head _ | apply List.Mem.tail) rfl rfl) ?_
      refine LJ_call0 rfl rfl rfl rfl rfl (beyond2_c (h := h) (tris := tris) hP v0 v1 hp) (fun _ h => h) ?_
      refine LJ_y rfl rfl (YJ_not rfl) ?_
      refine LJ_y rfl rfl (YJ_pickT rfl rfl) ?_
      refine LJ_y rfl rfl (YJ_assign rfl) ?_
      refine LJ_nil ?_
      refine QJ_then ?_
      refine CJ_ret ?_
      refine QJ_fin (.inl rfl) (μ' := []) (μr := _) (φ' := []) (res_tmp rfl rfl) (List.Perm.refl _) (fun _ h => nomatch h) ?_
      exact ⟨congrArg Value.bool (by first | (symm; rw [decide_eq_false_iff_not]; unfold hld; simp only [*, not_true_eq_false, not_false_eq_true, false_and, and_false, true_and]) | (unfold hld; simp [*])), rfl, rfl⟩
    · try simp only [decide_eq_true_eq, decide_eq_false_iff_not, Bool.not_eq_true', Bool.not_eq_false', Bool.and_eq_true, Bool.and_eq_false_iff, beq_iff_eq, bne_iff_ne, beq_eq_false_iff_ne, bne_eq_false_iff_eq, ne_eq, decide_eq_decide] at h27
      refine LJ_skip rfl rfl ?_
      refine LJ_skip rfl rfl ?_
      refine LJ_skip rfl rfl ?_
      refine LJ_skip rfl rfl ?_
      refine LJ_skip rfl rfl ?_
      refine LJ_y rfl rfl (YJ_pickF rfl rfl) ?_
      refine LJ_y rfl rfl (YJ_assign rfl) ?_
      refine LJ_nil ?_
      refine QJ_then ?_
      refine CJ_ret ?_
      refine QJ_fin (.inl rfl) (μ' := []) (μr := _) (φ' := []) (res_tmp rfl rfl) (List.Perm.refl _) (fun _ h => nomatch h) ?_
      exact ⟨congrArg Value.bool (by first | (symm; rw [decide_eq_false_iff_not]; unfold hld; simp only [*, not_true_eq_false, not_false_eq_true, false_and, and_false, true_and]) | (unfold hld; simp [*])), rfl, rfl⟩
  · try simp only [decide_eq_true_eq, decide_eq_false_iff_not, Bool.not_eq_true', Bool.not_eq_false', Bool.and_eq_true, Bool.and_eq_false_iff, beq_iff_eq, bne_iff_ne, beq_eq_false_iff_ne, bne_eq_false_iff_eq, ne_eq, decide_eq_decide] at h20
    refine LJ_skip rfl rfl ?_
    refine LJ_skip rfl rfl ?_
    refine LJ_skip rfl rfl ?_
    refine LJ_skip rfl rfl ?_
    refine LJ_skip rfl rfl ?_
    refine LJ_y rfl rfl (YJ_pickF rfl rfl) ?_
    refine LJ_y rfl rfl (YJ_move rfl) ?_
    refine LJ_skip rfl rfl ?_
    refine LJ_skip rfl rfl ?_
    refine LJ_skip rfl rfl ?_
    refine LJ_skip rfl rfl ?_
    refine LJ_skip rfl rfl ?_
    refine LJ_y rfl rfl (YJ_pickF rfl rfl) ?_
    refine LJ_y rfl rfl (YJ_assign rfl) ?_
    refine LJ_nil ?_
    refine QJ_then ?_
    refine CJ_ret ?_
    refine QJ_fin (.inl rfl) (μ' := []) (μr := _) (φ' := []) (res_tmp rfl rfl) (List.Perm.refl _) (fun _ h => nomatch h) ?_
    exact ⟨congrArg Value.bool (by first | (symm; rw [decide_eq_false_iff_not]; unfold hld; simp only [*, not_true_eq_false, not_false_eq_true, false_and, and_false, true_and]) | (unfold hld; simp [*])), rfl, rfl⟩

end Go.Proofs.Ytbanlhlggkdanaa
