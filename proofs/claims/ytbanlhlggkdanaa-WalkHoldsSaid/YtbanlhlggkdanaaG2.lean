/- The walk of the place of a point in a triangle that holds it. -/
import Derived.Test.YtbanlhlggkdanaaG1
set_option linter.unusedSimpArgs false
set_option linter.unusedVariables false
namespace Go.Proofs.Ytbanlhlggkdanaa
open Go.RowKit

theorem ent_56 : Enter Try.prog 56 = true := by kernel_rfl
theorem zer_42 : zer Try.prog 42 = some (.agg #[.int .i64 0, .int .i64 0, .int .i64 0, .int .i64 0]) := by kernel_rfl
theorem lay_42 : lay1 Try.prog 42 = some [.int .i64 0, .int .i64 0, .int .i64 0, .int .i64 0] := by kernel_rfl
theorem tyi_42 : tyi Try.prog 42 = some (true, 4) := by kernel_rfl


/-- a place: its kind, its triangle, two points -/
abbrev Pl := Int × Int × Int × Int
def plV (x : Pl) : Value := .agg #[.int .i64 x.1, .int .i64 x.2.1, .int .i64 x.2.2.1, .int .i64 x.2.2.2]
def edge (pts : List (Int × Int)) (t : Tr) (k : Nat) (p : Int × Int) : Prop :=
  A2 (ptAt pts (t.v ((k + 1) % 3))).1 (ptAt pts (t.v ((k + 1) % 3))).2 (ptAt pts (t.v ((k + 2) % 3))).1 (ptAt pts (t.v ((k + 2) % 3))).2 p.1 p.2 = 0
instance (pts : List (Int × Int)) (t : Tr) (k : Nat) (p : Int × Int) : Decidable (edge pts t k p) := inferInstanceAs (Decidable (_ = _))
def place (pts : List (Int × Int)) (t : Tr) (i : Int) (p : Int × Int) : Pl :=
  if ptAt pts t.v0 = p then (2, i, t.v0, 0) else if ptAt pts t.v1 = p then (2, i, t.v1, 0) else if ptAt pts t.v2 = p then (2, i, t.v2, 0)
  else if edge pts t 0 p then (1, i, min t.v1 t.v2, max t.v1 t.v2) else if edge pts t 1 p then (1, i, min t.v2 t.v0, max t.v2 t.v0) else if edge pts t 2 p then (1, i, min t.v0 t.v1, max t.v0 t.v1)
  else (0, i, 0, 0)
theorem pt_eq {q p : Int × Int} (h : q.1 = p.1 ∧ q.2 = p.2) : q = p := Prod.ext h.1 h.2


set_option maxRecDepth 100000 in
set_option maxHeartbeats 8000000 in
theorem within_c {B : Nat} {h : Mh} {pts : List (Int × Int)} {tris : List Tr} {t : Tr} {i : Int} {p1 p2 : Int} (hP : ∀ j, j < pts.length → P2 (pts.getD j (0, 0)).1 (pts.getD j (0, 0)).2) (hi : 0 ≤ i) (ht : tris[i.toNat]? = some t) (hv : t.ok pts.length) (hp : P2 p1 p2) : Tri Try.prog 56 [.pointer (some ⟨B, 0, none⟩), .int .i64 i, ptv p1 p2] [] (meshFs B h pts tris) (Ret0 (plV (place pts t i (p1, p2)))) := by
  refine Tri_of (N := 79) Try.func56 rfl ent_56 rfl rfl ?_
  intro w0 S0 T0
  show CJ _ _ _ [(0, _), (1, _), (2, _)] _ _
  have hlen : i.toNat < tris.length := by
    rcases Nat.lt_or_ge i.toNat tris.length with q | q
    · exact q
    · rw [List.getElem?_eq_none q] at ht; cases ht
  obtain ⟨⟨v0, w0_⟩, ⟨v1, w1_⟩, ⟨v2, w2_⟩⟩ := hv
  have g0 := hP (t.v0).toNat (by omega)
  have g1 := hP (t.v1).toNat (by omega)
  have g2 := hP (t.v2).toNat (by omega)
  refine CJ_seq ?_
  refine CJ_reg ?_
  refine LJ_box (cs := #[_, _]) rfl rfl rfl rfl ?_
  intro b1
  refine LJ_alloc (cs := #[_, _, _, _]) rfl rfl zer_42 rfl ?_
  intro b2
  refine LJ_nil ?_
  refine QJ_then ?_
  refine CJ_seq ?_
  refine CJ_reg ?_
  refine LJ_y rfl rfl (YJ_move rfl) ?_
  refine LJ_y rfl rfl (YJ_nilCheck rfl) ?_
  first | refine LJ_y rfl rfl (YJ_fieldOwn rfl fld_57_1 rfl) ?_ | refine LJ_y rfl rfl (YJ_fieldAddr rfl fld_57_1) ?_
  refine LJ_y rfl rfl (YJ_loadFactP (A := some ⟨B, 0, none⟩) (j := 1) rfl rfl tyi_54 (by repeat first | exact .head _ | apply List.Mem.tail) rfl) ?_
  refine LJ_y rfl rfl (YJ_move rfl) ?_
  refine LJ_y rfl rfl (YJ_ixFact rfl rfl elt_54 (by repeat first | exact .head _ | apply List.Mem.tail) (by decide) (by omega) (by omega) (by omega)) ?_
  first | refine LJ_y rfl rfl (YJ_fieldOwn rfl fld_37_0 rfl) ?_ | refine LJ_y rfl rfl (YJ_fieldAddr rfl fld_37_0) ?_
  refine LJ_y rfl rfl (YJ_loadFactNP (A := h.T) (j := i.toNat * 9) (vs := [.int .i64 t.v0, .int .i64 t.v1, .int .i64 t.v2]) rfl (Addr.add_add ..) tyi_34 (by repeat first | exact .head _ | apply List.Mem.tail) (trCells_v ht) rfl) ?_
  refine LJ_alloc (cs := #[_, _, _]) rfl rfl zer_34 rfl ?_
  intro b3
  refine LJ_store (cs' := #[_, _, _]) (μ' := [_, _, _]) 0 rfl rfl rfl rfl tyi_34 rfl (Nat.le_of_ble_eq_true rfl) rfl rfl rfl ?_
  refine LJ_nil ?_
  refine QJ_then ?_
  refine CJ_seq ?_
  refine CJ_seq ?_
  refine CJ_reg ?_
  first | refine LJ_y rfl rfl (YJ_loadN (vs := [_, _, _]) rfl tyi_34 (by repeat first | exact .head _ | apply List.Mem.tail) rfl rfl) ?_ | refine LJ_y rfl rfl (YJ_loadFactN (vs := [_, _, _]) rfl tyi_34 (by repeat first | exact .head _ | apply List.Mem.tail) rfl rfl) ?_
  refine LJ_y rfl rfl (YJ_move rfl) ?_
  refine LJ_nil ?_
  refine QJ_then ?_
  refine CJ_block ?_
  refine CJ_loopN 4 ?_
  refine CN_succ ?_
  refine CJ_seq ?_
  refine CJ_reg ?_
  refine LJ_y rfl rfl (YJ_bin rfl rfl rfl) ?_
  refine LJ_nil ?_
  refine QJ_then ?_
  refine CJ_seq ?_
  refine CJ_condT rfl ?_
  refine CJ_skip ?_
  refine QJ_then ?_
  refine CJ_seq ?_
  refine CJ_block ?_
  refine CJ_seq ?_
  refine CJ_reg ?_
  refine LJ_y rfl rfl (YJ_index1 rfl rfl arrt_34 tyi_3 (by omega) (by omega) rfl) ?_
  refine LJ_y rfl rfl (YJ_assign rfl) ?_
  refine LJ_nil ?_
  refine QJ_then ?_
  refine CJ_seq ?_
  refine CJ_regD mix (by kernel_rfl) (fun _ _ _ _ _ h => h) _ _ (fun _ h => h) (fun _ h => h) ?_
  refine AJ_y 0 rfl (by kernel_rfl) (by kernel_rfl) rfl rfl (YJ_move rfl) ?_
  refine AJ_y 1 rfl (by kernel_rfl) (by kernel_rfl) rfl rfl (YJ_nilCheck rfl) ?_
  first | refine AJ_y 2 rfl (by kernel_rfl) (by kernel_rfl) rfl rfl (YJ_fieldOwn rfl fld_57_0 rfl) ?_ | refine AJ_y 2 rfl (by kernel_rfl) (by kernel_rfl) rfl rfl (YJ_fieldAddr rfl fld_57_0) ?_
  refine AJ_y 3 rfl (by kernel_rfl) (by kernel_rfl) rfl rfl (YJ_loadFactP (A := some ⟨B, 0, none⟩) (j := 0) rfl rfl tyi_26 (by repeat first | exact .head _ | apply List.Mem.tail) rfl) ?_
  refine AJ_y 4 rfl (by kernel_rfl) (by kernel_rfl) rfl rfl (YJ_move rfl) ?_
  refine AJ_y 5 rfl (by kernel_rfl) (by kernel_rfl) rfl rfl (YJ_ixFact rfl rfl elt_26 (by repeat first | exact .head _ | apply List.Mem.tail) (by decide) (by omega) (by omega) (by omega)) ?_
  refine AJ_y 6 rfl (by kernel_rfl) (by kernel_rfl) rfl rfl (YJ_loadFactN (vs := [_, _]) (xs := ptCells pts) rfl tyi_23 (by repeat first | exact .head _ | apply List.Mem.tail) (ptCells_get (i := (t.v0).toNat) (by omega)) rfl) ?_
  first | refine AJ_y 7 rfl (by kernel_rfl) (by kernel_rfl) rfl rfl (YJ_loadN (vs := [_, _]) rfl tyi_23 (by repeat first | exact .head _ | apply List.Mem.tail) rfl rfl) ?_ | refine AJ_y 7 rfl (by kernel_rfl) (by kernel_rfl) rfl rfl (YJ_loadFactN (vs := [_, _]) rfl tyi_23 (by repeat first | exact .head _ | apply List.Mem.tail) rfl rfl) ?_
  refine AJ_y 8 rfl (by kernel_rfl) (by kernel_rfl) rfl rfl (YJ_eqs rfl rfl (fun _ => eqs_eql_23 ..)) ?_
  refine AJ_done (by kernel_rfl) ?_
  refine QJ_then ?_
  refine CJ_cond rfl (fun h33 => ?_) (fun h33 => ?_)
  · try simp only [decide_eq_true_eq, decide_eq_false_iff_not, Bool.not_eq_true', Bool.not_eq_false', Bool.and_eq_true, Bool.and_eq_false_iff, beq_iff_eq, bne_iff_ne, beq_eq_false_iff_ne, bne_eq_false_iff_eq, ne_eq, decide_eq_decide] at h33
    have q0 : ptAt pts t.v0 = (p1, p2) := pt_eq h33
    refine CJ_seq ?_
    refine CJ_reg ?_
    refine LJ_y rfl rfl (YJ_move rfl) ?_
    refine LJ_y rfl rfl (YJ_move rfl) ?_
    refine LJ_y rfl rfl (YJ_build1 (cs := [_, _, _, _]) lay_42 rfl rfl rfl) ?_
    refine LJ_store (cs' := #[_, _, _, _]) (μ' := [_, _, _]) 1 rfl rfl rfl rfl tyi_42 rfl (Nat.le_of_ble_eq_true rfl) rfl rfl rfl ?_
    refine LJ_nil ?_
    refine QJ_then ?_
    refine CJ_ret ?_
    refine QJ_in_ret ?_
    refine QJ_then_ret ?_
    refine QJ_then_ret ?_
    refine QJ_in_ret ?_
    refine QJ_then_ret ?_
    refine QJ_fin (.inl rfl) (μ' := []) (μr := _) (φ' := []) (res_cell (vs := [_, _, _, _]) rfl rfl (by repeat first | exact .head _ | apply List.Mem.tail) tyi_42 rfl) (List.Perm.refl _) (fun _ h => nomatch h) ?_
    exact ⟨(congrArg plV (show place pts t i (p1, p2) = (_, _, _, _) from by unfold place; simp only [*, if_true, if_false, not_true_eq_false, not_false_eq_true]; try rfl)).symm, rfl, rfl⟩
  · try simp only [decide_eq_true_eq, decide_eq_false_iff_not, Bool.not_eq_true', Bool.not_eq_false', Bool.and_eq_true, Bool.and_eq_false_iff, beq_iff_eq, bne_iff_ne, beq_eq_false_iff_ne, bne_eq_false_iff_eq, ne_eq, decide_eq_decide] at h33
    have q0 : ¬ ptAt pts t.v0 = (p1, p2) := fun e => by
      have e1 := congrArg Prod.fst e
      have e2 := congrArg Prod.snd e
      rcases h33 with h | h
      · exact h e1
      · exact h e2
    refine CJ_skip ?_
    refine QJ_in_normal ?_
    refine QJ_then ?_
    refine CJ_reg ?_
    first | refine LJ_y rfl rfl (YJ_bin rfl rfl (iop_add (by omega))) ?_ | refine LJ_y rfl rfl (YJ_bin rfl rfl rfl) ?_
    refine LJ_y rfl rfl (YJ_move rfl) ?_
    refine LJ_nil ?_
    refine QJ_thenN ?_
    refine CN_succ ?_
    refine CJ_seq ?_
    refine CJ_reg ?_
    refine LJ_y rfl rfl (YJ_bin rfl rfl rfl) ?_
    refine LJ_nil ?_
    refine QJ_then ?_
    refine CJ_seq ?_
    refine CJ_condT rfl ?_
    refine CJ_skip ?_
    refine QJ_then ?_
    refine CJ_seq ?_
    refine CJ_block ?_
    refine CJ_seq ?_
    refine CJ_reg ?_
    refine LJ_y rfl rfl (YJ_index1 rfl rfl arrt_34 tyi_3 (by omega) (by omega) rfl) ?_
    refine LJ_y rfl rfl (YJ_assign rfl) ?_
    refine LJ_nil ?_
    refine QJ_then ?_
    refine CJ_seq ?_
    refine CJ_regD mix (by kernel_rfl) (fun _ _ _ _ _ h => h) _ _ (fun _ h => h) (fun _ h => h) ?_
    refine AJ_y 0 rfl (by kernel_rfl) (by kernel_rfl) rfl rfl (YJ_move rfl) ?_
    refine AJ_y 1 rfl (by kernel_rfl) (by kernel_rfl) rfl rfl (YJ_nilCheck rfl) ?_
    first | refine AJ_y 2 rfl (by kernel_rfl) (by kernel_rfl) rfl rfl (YJ_fieldOwn rfl fld_57_0 rfl) ?_ | refine AJ_y 2 rfl (by kernel_rfl) (by kernel_rfl) rfl rfl (YJ_fieldAddr rfl fld_57_0) ?_
    refine AJ_y 3 rfl (by kernel_rfl) (by kernel_rfl) rfl rfl (YJ_loadFactP (A := some ⟨B, 0, none⟩) (j := 0) rfl rfl tyi_26 (by repeat first | exact .head _ | apply List.Mem.tail) rfl) ?_
    refine AJ_y 4 rfl (by kernel_rfl) (by kernel_rfl) rfl rfl (YJ_move rfl) ?_
    refine AJ_y 5 rfl (by kernel_rfl) (by kernel_rfl) rfl rfl (YJ_ixFact rfl rfl elt_26 (by repeat first | exact .head _ | apply List.Mem.tail) (by decide) (by omega) (by omega) (by omega)) ?_
    refine AJ_y 6 rfl (by kernel_rfl) (by kernel_rfl) rfl rfl (YJ_loadFactN (vs := [_, _]) (xs := ptCells pts) rfl tyi_23 (by repeat first | exact .head _ | apply List.Mem.tail) (ptCells_get (i := (t.v1).toNat) (by omega)) rfl) ?_
    first | refine AJ_y 7 rfl (by kernel_rfl) (by kernel_rfl) rfl rfl (YJ_loadN (vs := [_, _]) rfl tyi_23 (by repeat first | exact .head _ | apply List.Mem.tail) rfl rfl) ?_ | refine AJ_y 7 rfl (by kernel_rfl) (by kernel_rfl) rfl rfl (YJ_loadFactN (vs := [_, _]) rfl tyi_23 (by repeat first | exact .head _ | apply List.Mem.tail) rfl rfl) ?_
    refine AJ_y 8 rfl (by kernel_rfl) (by kernel_rfl) rfl rfl (YJ_eqs rfl rfl (fun _ => eqs_eql_23 ..)) ?_
    refine AJ_done (by kernel_rfl) ?_
    refine QJ_then ?_
    refine CJ_cond rfl (fun h33 => ?_) (fun h33 => ?_)
    · try simp only [decide_eq_true_eq, decide_eq_false_iff_not, Bool.not_eq_true', Bool.not_eq_false', Bool.and_eq_true, Bool.and_eq_false_iff, beq_iff_eq, bne_iff_ne, beq_eq_false_iff_ne, bne_eq_false_iff_eq, ne_eq, decide_eq_decide] at h33
      have q1 : ptAt pts t.v1 = (p1, p2) := pt_eq h33
      refine CJ_seq ?_
      refine CJ_reg ?_
      refine LJ_y rfl rfl (YJ_move rfl) ?_
      refine LJ_y rfl rfl (YJ_move rfl) ?_
      refine LJ_y rfl rfl (YJ_build1 (cs := [_, _, _, _]) lay_42 rfl rfl rfl) ?_
      refine LJ_store (cs' := #[_, _, _, _]) (μ' := [_, _, _]) 1 rfl rfl rfl rfl tyi_42 rfl (Nat.le_of_ble_eq_true rfl) rfl rfl rfl ?_
      refine LJ_nil ?_
      refine QJ_then ?_
      refine CJ_ret ?_
      refine QJ_in_ret ?_
      refine QJ_then_ret ?_
      refine QJ_then_ret ?_
      refine QJ_in_ret ?_
      refine QJ_then_ret ?_
      refine QJ_fin (.inl rfl) (μ' := []) (μr := _) (φ' := []) (res_cell (vs := [_, _, _, _]) rfl rfl (by repeat first | exact .head _ | apply List.Mem.tail) tyi_42 rfl) (List.Perm.refl _) (fun _ h => nomatch h) ?_
      exact ⟨(congrArg plV (show place pts t i (p1, p2) = (_, _, _, _) from by unfold place; simp only [*, if_true, if_false, not_true_eq_false, not_false_eq_true]; try rfl)).symm, rfl, rfl⟩
    · try simp only [decide_eq_true_eq, decide_eq_false_iff_not, Bool.not_eq_true', Bool.not_eq_false', Bool.and_eq_true, Bool.and_eq_false_iff, beq_iff_eq, bne_iff_ne, beq_eq_false_iff_ne, bne_eq_false_iff_eq, ne_eq, decide_eq_decide] at h33
      have q1 : ¬ ptAt pts t.v1 = (p1, p2) := fun e => by
        have e1 := congrArg Prod.fst e
        have e2 := congrArg Prod.snd e
        rcases h33 with h | h
        · exact h e1
        · exact h e2
      refine CJ_skip ?_
      refine QJ_in_normal ?_
      refine QJ_then ?_
      refine CJ_reg ?_
      first | refine LJ_y rfl rfl (YJ_bin rfl rfl (iop_add (by omega))) ?_ | refine LJ_y rfl rfl (YJ_bin rfl rfl rfl) ?_
      refine LJ_y rfl rfl (YJ_move rfl) ?_
      refine LJ_nil ?_
      refine QJ_thenN ?_
      refine CN_succ ?_
      refine CJ_seq ?_
      refine CJ_reg ?_
      refine LJ_y rfl rfl (YJ_bin rfl rfl rfl) ?_
      refine LJ_nil ?_
      refine QJ_then ?_
      refine CJ_seq ?_
      refine CJ_condT rfl ?_
      refine CJ_skip ?_
      refine QJ_then ?_
      refine CJ_seq ?_
      refine CJ_block ?_
      refine CJ_seq ?_
      refine CJ_reg ?_
      refine LJ_y rfl rfl (YJ_index1 rfl rfl arrt_34 tyi_3 (by omega) (by omega) rfl) ?_
      refine LJ_y rfl rfl (YJ_assign rfl) ?_
      refine LJ_nil ?_
      refine QJ_then ?_
      refine CJ_seq ?_
      refine CJ_regD mix (by kernel_rfl) (fun _ _ _ _ _ h => h) _ _ (fun _ h => h) (fun _ h => h) ?_
      refine AJ_y 0 rfl (by kernel_rfl) (by kernel_rfl) rfl rfl (YJ_move rfl) ?_
      refine AJ_y 1 rfl (by kernel_rfl) (by kernel_rfl) rfl rfl (YJ_nilCheck rfl) ?_
      first | refine AJ_y 2 rfl (by kernel_rfl) (by kernel_rfl) rfl rfl (YJ_fieldOwn rfl fld_57_0 rfl) ?_ | refine AJ_y 2 rfl (by kernel_rfl) (by kernel_rfl) rfl rfl (YJ_fieldAddr rfl fld_57_0) ?_
      refine AJ_y 3 rfl (by kernel_rfl) (by kernel_rfl) rfl rfl (YJ_loadFactP (A := some ⟨B, 0, none⟩) (j := 0) rfl rfl tyi_26 (by repeat first | exact .head _ | apply List.Mem.tail) rfl) ?_
      refine AJ_y 4 rfl (by kernel_rfl) (by kernel_rfl) rfl rfl (YJ_move rfl) ?_
      refine AJ_y 5 rfl (by kernel_rfl) (by kernel_rfl) rfl rfl (YJ_ixFact rfl rfl elt_26 (by repeat first | exact .head _ | apply List.Mem.tail) (by decide) (by omega) (by omega) (by omega)) ?_
      refine AJ_y 6 rfl (by kernel_rfl) (by kernel_rfl) rfl rfl (YJ_loadFactN (vs := [_, _]) (xs := ptCells pts) rfl tyi_23 (by repeat first | exact .head _ | apply List.Mem.tail) (ptCells_get (i := (t.v2).toNat) (by omega)) rfl) ?_
      first | refine AJ_y 7 rfl (by kernel_rfl) (by kernel_rfl) rfl rfl (YJ_loadN (vs := [_, _]) rfl tyi_23 (by repeat first | exact .head _ | apply List.Mem.tail) rfl rfl) ?_ | refine AJ_y 7 rfl (by kernel_rfl) (by kernel_rfl) rfl rfl (YJ_loadFactN (vs := [_, _]) rfl tyi_23 (by repeat first | exact .head _ | apply List.Mem.tail) rfl rfl) ?_
      refine AJ_y 8 rfl (by kernel_rfl) (by kernel_rfl) rfl rfl (YJ_eqs rfl rfl (fun _ => eqs_eql_23 ..)) ?_
      refine AJ_done (by kernel_rfl) ?_
      refine QJ_then ?_
      refine CJ_cond rfl (fun h33 => ?_) (fun h33 => ?_)
      · try simp only [decide_eq_true_eq, decide_eq_false_iff_not, Bool.not_eq_true', Bool.not_eq_false', Bool.and_eq_true, Bool.and_eq_false_iff, beq_iff_eq, bne_iff_ne, beq_eq_false_iff_ne, bne_eq_false_iff_eq, ne_eq, decide_eq_decide] at h33
        have q2 : ptAt pts t.v2 = (p1, p2) := pt_eq h33
        refine CJ_seq ?_
        refine CJ_reg ?_
        refine LJ_y rfl rfl (YJ_move rfl) ?_
        refine LJ_y rfl rfl (YJ_move rfl) ?_
        refine LJ_y rfl rfl (YJ_build1 (cs := [_, _, _, _]) lay_42 rfl rfl rfl) ?_
        refine LJ_store (cs' := #[_, _, _, _]) (μ' := [_, _, _]) 1 rfl rfl rfl rfl tyi_42 rfl (Nat.le_of_ble_eq_true rfl) rfl rfl rfl ?_
        refine LJ_nil ?_
        refine QJ_then ?_
        refine CJ_ret ?_
        refine QJ_in_ret ?_
        refine QJ_then_ret ?_
        refine QJ_then_ret ?_
        refine QJ_in_ret ?_
        refine QJ_then_ret ?_
        refine QJ_fin (.inl rfl) (μ' := []) (μr := _) (φ' := []) (res_cell (vs := [_, _, _, _]) rfl rfl (by repeat first | exact .head _ | apply List.Mem.tail) tyi_42 rfl) (List.Perm.refl _) (fun _ h => nomatch h) ?_
        exact ⟨(congrArg plV (show place pts t i (p1, p2) = (_, _, _, _) from by unfold place; simp only [*, if_true, if_false, not_true_eq_false, not_false_eq_true]; try rfl)).symm, rfl, rfl⟩
      · try simp only [decide_eq_true_eq, decide_eq_false_iff_not, Bool.not_eq_true', Bool.not_eq_false', Bool.and_eq_true, Bool.and_eq_false_iff, beq_iff_eq, bne_iff_ne, beq_eq_false_iff_ne, bne_eq_false_iff_eq, ne_eq, decide_eq_decide] at h33
        have q2 : ¬ ptAt pts t.v2 = (p1, p2) := fun e => by
          have e1 := congrArg Prod.fst e
          have e2 := congrArg Prod.snd e
          rcases h33 with h | h
          · exact h e1
          · exact h e2
        refine CJ_skip ?_
        refine QJ_in_normal ?_
        refine QJ_then ?_
        refine CJ_reg ?_
        first | refine LJ_y rfl rfl (YJ_bin rfl rfl (iop_add (by omega))) ?_ | refine LJ_y rfl rfl (YJ_bin rfl rfl rfl) ?_
        refine LJ_y rfl rfl (YJ_move rfl) ?_
        refine LJ_nil ?_
        refine QJ_thenN ?_
        refine CN_succ ?_
        refine CJ_seq ?_
        refine CJ_reg ?_
        refine LJ_y rfl rfl (YJ_bin rfl rfl rfl) ?_
        refine LJ_nil ?_
        refine QJ_then ?_
        refine CJ_seq ?_
        refine CJ_condF rfl ?_
        refine CJ_exit ?_
        refine QJ_then_exit ?_
        refine QJ_then_exit ?_
        refine QJ_in_exit ?_
        refine QJ_then ?_
        refine CJ_seq ?_
        refine CJ_seq ?_
        refine CJ_reg ?_
        refine LJ_y rfl rfl (YJ_move rfl) ?_
        refine LJ_nil ?_
        refine QJ_then ?_
        refine CJ_block ?_
        refine CJ_loopN 4 ?_
        refine CN_succ ?_
        refine CJ_seq ?_
        refine CJ_reg ?_
        refine LJ_y rfl rfl (YJ_bin rfl rfl rfl) ?_
        refine LJ_nil ?_
        refine QJ_then ?_
        refine CJ_seq ?_
        refine CJ_condT rfl ?_
        refine CJ_skip ?_
        refine QJ_then ?_
        refine CJ_seq ?_
        refine CJ_block ?_
        refine CJ_seq ?_
        refine CJ_reg ?_
        refine LJ_y rfl rfl (YJ_move rfl) ?_
        refine LJ_y rfl rfl (YJ_assign rfl) ?_
        refine LJ_nil ?_
        refine QJ_then ?_
        refine CJ_seq ?_
        refine CJ_regD mix (by kernel_rfl) (fun _ _ _ _ _ h => h) _ _ (fun _ h => h) (fun _ h => h) ?_
        refine AJ_y 0 rfl (by kernel_rfl) (by kernel_rfl) rfl rfl (YJ_move rfl) ?_
        first | refine AJ_y 1 rfl (by kernel_rfl) (by kernel_rfl) rfl rfl (YJ_bin rfl rfl (iop_add (by omega))) ?_ | refine AJ_y 1 rfl (by kernel_rfl) (by kernel_rfl) rfl rfl (YJ_bin rfl rfl rfl) ?_
        refine AJ_y 2 rfl (by kernel_rfl) (by kernel_rfl) rfl rfl (YJ_rem rfl rfl (by first | decide | omega)) ?_
        refine AJ_val (v := .int .i64 1) (rfl) ?_
        first | refine AJ_y 3 rfl (by kernel_rfl) (by kernel_rfl) rfl rfl (YJ_ixArr rfl rfl arrt_34 (by omega) (by omega) rfl) ?_ | refine AJ_y 3 rfl (by kernel_rfl) (by kernel_rfl) rfl rfl (YJ_ixArrP rfl rfl arrt_34 (by omega) (by omega)) ?_
        first | refine AJ_y 4 rfl (by kernel_rfl) (by kernel_rfl) rfl rfl (YJ_loadL rfl tyi_3 (by repeat first | exact .head _ | apply List.Mem.tail) rfl) ?_ | refine AJ_y 4 rfl (by kernel_rfl) (by kernel_rfl) rfl rfl (YJ_loadFact rfl tyi_3 (by repeat first | exact .head _ | apply List.Mem.tail) rfl) ?_
        refine AJ_y 5 rfl (by kernel_rfl) (by kernel_rfl) rfl rfl (YJ_move rfl) ?_
        first | refine AJ_y 6 rfl (by kernel_rfl) (by kernel_rfl) rfl rfl (YJ_bin rfl rfl (iop_add (by omega))) ?_ | refine AJ_y 6 rfl (by kernel_rfl) (by kernel_rfl) rfl rfl (YJ_bin rfl rfl rfl) ?_
        refine AJ_y 7 rfl (by kernel_rfl) (by kernel_rfl) rfl rfl (YJ_rem rfl rfl (by first | decide | omega)) ?_
        refine AJ_val (v := .int .i64 2) (rfl) ?_
        first | refine AJ_y 8 rfl (by kernel_rfl) (by kernel_rfl) rfl rfl (YJ_ixArr rfl rfl arrt_34 (by omega) (by omega) rfl) ?_ | refine AJ_y 8 rfl (by kernel_rfl) (by kernel_rfl) rfl rfl (YJ_ixArrP rfl rfl arrt_34 (by omega) (by omega)) ?_
        first | refine AJ_y 9 rfl (by kernel_rfl) (by kernel_rfl) rfl rfl (YJ_loadL rfl tyi_3 (by repeat first | exact .head _ | apply List.Mem.tail) rfl) ?_ | refine AJ_y 9 rfl (by kernel_rfl) (by kernel_rfl) rfl rfl (YJ_loadFact rfl tyi_3 (by repeat first | exact .head _ | apply List.Mem.tail) rfl) ?_
        refine AJ_y 10 rfl (by kernel_rfl) (by kernel_rfl) rfl rfl (YJ_assign rfl) ?_
        refine AJ_y 11 rfl (by kernel_rfl) (by kernel_rfl) rfl rfl (YJ_assign rfl) ?_
        refine AJ_done (by kernel_rfl) ?_
        refine QJ_then ?_
        refine CJ_seq ?_
        refine CJ_regD mix (by kernel_rfl) (fun _ _ _ _ _ h => h) _ _ (fun _ h => h) (fun _ h => h) ?_
        refine AJ_y 0 rfl (by kernel_rfl) (by kernel_rfl) rfl rfl (YJ_move rfl) ?_
        refine AJ_y 1 rfl (by kernel_rfl) (by kernel_rfl) rfl rfl (YJ_nilCheck rfl) ?_
        first | refine AJ_y 2 rfl (by kernel_rfl) (by kernel_rfl) rfl rfl (YJ_fieldOwn rfl fld_57_0 rfl) ?_ | refine AJ_y 2 rfl (by kernel_rfl) (by kernel_rfl) rfl rfl (YJ_fieldAddr rfl fld_57_0) ?_
        refine AJ_y 3 rfl (by kernel_rfl) (by kernel_rfl) rfl rfl (YJ_loadFactP (A := some ⟨B, 0, none⟩) (j := 0) rfl rfl tyi_26 (by repeat first | exact .head _ | apply List.Mem.tail) rfl) ?_
        refine AJ_y 4 rfl (by kernel_rfl) (by kernel_rfl) rfl rfl (YJ_move rfl) ?_
        refine AJ_y 5 rfl (by kernel_rfl) (by kernel_rfl) rfl rfl (YJ_ixFact rfl rfl elt_26 (by repeat first | exact .head _ | apply List.Mem.tail) (by decide) (by omega) (by omega) (by omega)) ?_
        refine AJ_y 6 rfl (by kernel_rfl) (by kernel_rfl) rfl rfl (YJ_loadFactN (vs := [_, _]) (xs := ptCells pts) rfl tyi_23 (by repeat first | exact .head _ | apply List.Mem.tail) (ptCells_get (i := (t.v1).toNat) (by omega)) rfl) ?_
        refine AJ_y 7 rfl (by kernel_rfl) (by kernel_rfl) rfl rfl (YJ_move rfl) ?_
        refine AJ_y 8 rfl (by kernel_rfl) (by kernel_rfl) rfl rfl (YJ_nilCheck rfl) ?_
        first | refine AJ_y 9 rfl (by kernel_rfl) (by kernel_rfl) rfl rfl (YJ_fieldOwn rfl fld_57_0 rfl) ?_ | refine AJ_y 9 rfl (by kernel_rfl) (by kernel_rfl) rfl rfl (YJ_fieldAddr rfl fld_57_0) ?_
        refine AJ_y 10 rfl (by kernel_rfl) (by kernel_rfl) rfl rfl (YJ_loadFactP (A := some ⟨B, 0, none⟩) (j := 0) rfl rfl tyi_26 (by repeat first | exact .head _ | apply List.Mem.tail) rfl) ?_
        refine AJ_y 11 rfl (by kernel_rfl) (by kernel_rfl) rfl rfl (YJ_move rfl) ?_
        refine AJ_y 12 rfl (by kernel_rfl) (by kernel_rfl) rfl rfl (YJ_ixFact rfl rfl elt_26 (by repeat first | exact .head _ | apply List.Mem.tail) (by decide) (by omega) (by omega) (by omega)) ?_
        refine AJ_y 13 rfl (by kernel_rfl) (by kernel_rfl) rfl rfl (YJ_loadFactN (vs := [_, _]) (xs := ptCells pts) rfl tyi_23 (by repeat first | exact .head _ | apply List.Mem.tail) (ptCells_get (i := (t.v2).toNat) (by omega)) rfl) ?_
        first | refine AJ_y 14 rfl (by kernel_rfl) (by kernel_rfl) rfl rfl (YJ_loadN (vs := [_, _]) rfl tyi_23 (by repeat first | exact .head _ | apply List.Mem.tail) rfl rfl) ?_ | refine AJ_y 14 rfl (by kernel_rfl) (by kernel_rfl) rfl rfl (YJ_loadFactN (vs := [_, _]) rfl tyi_23 (by repeat first | exact .head _ | apply List.Mem.tail) rfl rfl) ?_
        refine AJ_call0 15 rfl (by kernel_rfl) rfl rfl rfl rfl rfl (orient_c g1 g2 hp) (AllIn.sub (by first | exact trivial | exact And.intro (by repeat first | exact .head _ | apply List.Mem.tail) trivial | exact And.intro (by repeat first | exact .head _ | apply List.Mem.tail) (And.intro (by repeat first | exact .head _ | apply List.Mem.tail) trivial))) ?_
        refine AJ_y 16 rfl (by kernel_rfl) (by kernel_rfl) rfl rfl (YJ_bin rfl rfl rfl) ?_
        refine AJ_done (by kernel_rfl) ?_
        refine QJ_then ?_
        refine CJ_cond rfl (fun h67 => ?_) (fun h67 => ?_)
        · try simp only [decide_eq_true_eq, decide_eq_false_iff_not, Bool.not_eq_true', Bool.not_eq_false', Bool.and_eq_true, Bool.and_eq_false_iff, beq_iff_eq, bne_iff_ne, beq_eq_false_iff_ne, bne_eq_false_iff_eq, ne_eq, decide_eq_decide] at h67
          have e0 : edge pts t 0 (p1, p2) := sgn_zero.1 h67
          refine CJ_seq ?_
          refine CJ_reg ?_
          refine LJ_y rfl rfl (YJ_move rfl) ?_
          refine LJ_y rfl rfl (YJ_move rfl) ?_
          refine LJ_y rfl rfl (YJ_move rfl) ?_
          refine LJ_y rfl rfl (YJ_min2 rfl rfl) ?_
          refine LJ_y rfl rfl (YJ_move rfl) ?_
          refine LJ_y rfl rfl (YJ_move rfl) ?_
          refine LJ_y rfl rfl (YJ_max2 rfl rfl) ?_
          refine LJ_y rfl rfl (YJ_build1 (cs := [_, _, _, _]) lay_42 rfl rfl rfl) ?_
          refine LJ_store (cs' := #[_, _, _, _]) (μ' := [_, _, _]) 1 rfl rfl rfl rfl tyi_42 rfl (Nat.le_of_ble_eq_true rfl) rfl rfl rfl ?_
          refine LJ_nil ?_
          refine QJ_then ?_
          refine CJ_ret ?_
          refine QJ_in_ret ?_
          refine QJ_then_ret ?_
          refine QJ_then_ret ?_
          refine QJ_in_ret ?_
          refine QJ_then_ret ?_
          refine QJ_fin (.inl rfl) (μ' := []) (μr := _) (φ' := []) (res_cell (vs := [_, _, _, _]) rfl rfl (by repeat first | exact .head _ | apply List.Mem.tail) tyi_42 rfl) (List.Perm.refl _) (fun _ h => nomatch h) ?_
          exact ⟨(congrArg plV (show place pts t i (p1, p2) = (_, _, _, _) from by unfold place; simp only [*, if_true, if_false, not_true_eq_false, not_false_eq_true]; try rfl)).symm, rfl, rfl⟩
        · try simp only [decide_eq_true_eq, decide_eq_false_iff_not, Bool.not_eq_true', Bool.not_eq_false', Bool.and_eq_true, Bool.and_eq_false_iff, beq_iff_eq, bne_iff_ne, beq_eq_false_iff_ne, bne_eq_false_iff_eq, ne_eq, decide_eq_decide] at h67
          have e0 : ¬ edge pts t 0 (p1, p2) := fun e => h67 (sgn_zero.2 e)
          refine CJ_skip ?_
          refine QJ_in_normal ?_
          refine QJ_then ?_
          refine CJ_reg ?_
          first | refine LJ_y rfl rfl (YJ_bin rfl rfl (iop_add (by omega))) ?_ | refine LJ_y rfl rfl (YJ_bin rfl rfl rfl) ?_
          refine LJ_y rfl rfl (YJ_move rfl) ?_
          refine LJ_nil ?_
          refine QJ_thenN ?_
          refine CN_succ ?_
          refine CJ_seq ?_
          refine CJ_reg ?_
          refine LJ_y rfl rfl (YJ_bin rfl rfl rfl) ?_
          refine LJ_nil ?_
          refine QJ_then ?_
          refine CJ_seq ?_
          refine CJ_condT rfl ?_
          refine CJ_skip ?_
          refine QJ_then ?_
          refine CJ_seq ?_
          refine CJ_block ?_
          refine CJ_seq ?_
          refine CJ_reg ?_
          refine LJ_y rfl rfl (YJ_move rfl) ?_
          refine LJ_y rfl rfl (YJ_assign rfl) ?_
          refine LJ_nil ?_
          refine QJ_then ?_
          refine CJ_seq ?_
          refine CJ_regD mix (by kernel_rfl) (fun _ _ _ _ _ h => h) _ _ (fun _ h => h) (fun _ h => h) ?_
          refine AJ_y 0 rfl (by kernel_rfl) (by kernel_rfl) rfl rfl (YJ_move rfl) ?_
          first | refine AJ_y 1 rfl (by kernel_rfl) (by kernel_rfl) rfl rfl (YJ_bin rfl rfl (iop_add (by omega))) ?_ | refine AJ_y 1 rfl (by kernel_rfl) (by kernel_rfl) rfl rfl (YJ_bin rfl rfl rfl) ?_
          refine AJ_y 2 rfl (by kernel_rfl) (by kernel_rfl) rfl rfl (YJ_rem rfl rfl (by first | decide | omega)) ?_
          refine AJ_val (v := .int .i64 2) (rfl) ?_
          first | refine AJ_y 3 rfl (by kernel_rfl) (by kernel_rfl) rfl rfl (YJ_ixArr rfl rfl arrt_34 (by omega) (by omega) rfl) ?_ | refine AJ_y 3 rfl (by kernel_rfl) (by kernel_rfl) rfl rfl (YJ_ixArrP rfl rfl arrt_34 (by omega) (by omega)) ?_
          first | refine AJ_y 4 rfl (by kernel_rfl) (by kernel_rfl) rfl rfl (YJ_loadL rfl tyi_3 (by repeat first | exact .head _ | apply List.Mem.tail) rfl) ?_ | refine AJ_y 4 rfl (by kernel_rfl) (by kernel_rfl) rfl rfl (YJ_loadFact rfl tyi_3 (by repeat first | exact .head _ | apply List.Mem.tail) rfl) ?_
          refine AJ_y 5 rfl (by kernel_rfl) (by kernel_rfl) rfl rfl (YJ_move rfl) ?_
          first | refine AJ_y 6 rfl (by kernel_rfl) (by kernel_rfl) rfl rfl (YJ_bin rfl rfl (iop_add (by omega))) ?_ | refine AJ_y 6 rfl (by kernel_rfl) (by kernel_rfl) rfl rfl (YJ_bin rfl rfl rfl) ?_
          refine AJ_y 7 rfl (by kernel_rfl) (by kernel_rfl) rfl rfl (YJ_rem rfl rfl (by first | decide | omega)) ?_
          refine AJ_val (v := .int .i64 0) (rfl) ?_
          first | refine AJ_y 8 rfl (by kernel_rfl) (by kernel_rfl) rfl rfl (YJ_ixArr rfl rfl arrt_34 (by omega) (by omega) rfl) ?_ | refine AJ_y 8 rfl (by kernel_rfl) (by kernel_rfl) rfl rfl (YJ_ixArrP rfl rfl arrt_34 (by omega) (by omega)) ?_
          first | refine AJ_y 9 rfl (by kernel_rfl) (by kernel_rfl) rfl rfl (YJ_loadL rfl tyi_3 (by repeat first | exact .head _ | apply List.Mem.tail) rfl) ?_ | refine AJ_y 9 rfl (by kernel_rfl) (by kernel_rfl) rfl rfl (YJ_loadFact rfl tyi_3 (by repeat first | exact .head _ | apply List.Mem.tail) rfl) ?_
          refine AJ_y 10 rfl (by kernel_rfl) (by kernel_rfl) rfl rfl (YJ_assign rfl) ?_
          refine AJ_y 11 rfl (by kernel_rfl) (by kernel_rfl) rfl rfl (YJ_assign rfl) ?_
          refine AJ_done (by kernel_rfl) ?_
          refine QJ_then ?_
          refine CJ_seq ?_
          refine CJ_regD mix (by kernel_rfl) (fun _ _ _ _ _ h => h) _ _ (fun _ h => h) (fun _ h => h) ?_
          refine AJ_y 0 rfl (by kernel_rfl) (by kernel_rfl) rfl rfl (YJ_move rfl) ?_
          refine AJ_y 1 rfl (by kernel_rfl) (by kernel_rfl) rfl rfl (YJ_nilCheck rfl) ?_
          first | refine AJ_y 2 rfl (by kernel_rfl) (by kernel_rfl) rfl rfl (YJ_fieldOwn rfl fld_57_0 rfl) ?_ | refine AJ_y 2 rfl (by kernel_rfl) (by kernel_rfl) rfl rfl (YJ_fieldAddr rfl fld_57_0) ?_
          refine AJ_y 3 rfl (by kernel_rfl) (by kernel_rfl) rfl rfl (YJ_loadFactP (A := some ⟨B, 0, none⟩) (j := 0) rfl rfl tyi_26 (by repeat first | exact .head _ | apply List.Mem.tail) rfl) ?_
          refine AJ_y 4 rfl (by kernel_rfl) (by kernel_rfl) rfl rfl (YJ_move rfl) ?_
          refine AJ_y 5 rfl (by kernel_rfl) (by kernel_rfl) rfl rfl (YJ_ixFact rfl rfl elt_26 (by repeat first | exact .head _ | apply List.Mem.tail) (by decide) (by omega) (by omega) (by omega)) ?_
          refine AJ_y 6 rfl (by kernel_rfl) (by kernel_rfl) rfl rfl (YJ_loadFactN (vs := [_, _]) (xs := ptCells pts) rfl tyi_23 (by repeat first | exact .head _ | apply List.Mem.tail) (ptCells_get (i := (t.v2).toNat) (by omega)) rfl) ?_
          refine AJ_y 7 rfl (by kernel_rfl) (by kernel_rfl) rfl rfl (YJ_move rfl) ?_
          refine AJ_y 8 rfl (by kernel_rfl) (by kernel_rfl) rfl rfl (YJ_nilCheck rfl) ?_
          first | refine AJ_y 9 rfl (by kernel_rfl) (by kernel_rfl) rfl rfl (YJ_fieldOwn rfl fld_57_0 rfl) ?_ | refine AJ_y 9 rfl (by kernel_rfl) (by kernel_rfl) rfl rfl (YJ_fieldAddr rfl fld_57_0) ?_
          refine AJ_y 10 rfl (by kernel_rfl) (by kernel_rfl) rfl rfl (YJ_loadFactP (A := some ⟨B, 0, none⟩) (j := 0) rfl rfl tyi_26 (by repeat first | exact .head _ | apply List.Mem.tail) rfl) ?_
          refine AJ_y 11 rfl (by kernel_rfl) (by kernel_rfl) rfl rfl (YJ_move rfl) ?_
          refine AJ_y 12 rfl (by kernel_rfl) (by kernel_rfl) rfl rfl (YJ_ixFact rfl rfl elt_26 (by repeat first | exact .head _ | apply List.Mem.tail) (by decide) (by omega) (by omega) (by omega)) ?_
          refine AJ_y 13 rfl (by kernel_rfl) (by kernel_rfl) rfl rfl (YJ_loadFactN (vs := [_, _]) (xs := ptCells pts) rfl tyi_23 (by repeat first | exact .head _ | apply List.Mem.tail) (ptCells_get (i := (t.v0).toNat) (by omega)) rfl) ?_
          first | refine AJ_y 14 rfl (by kernel_rfl) (by kernel_rfl) rfl rfl (YJ_loadN (vs := [_, _]) rfl tyi_23 (by repeat first | exact .head _ | apply List.Mem.tail) rfl rfl) ?_ | refine AJ_y 14 rfl (by kernel_rfl) (by kernel_rfl) rfl rfl (YJ_loadFactN (vs := [_, _]) rfl tyi_23 (by repeat first | exact .head _ | apply List.Mem.tail) rfl rfl) ?_
          refine AJ_call0 15 rfl (by kernel_rfl) rfl rfl rfl rfl rfl (orient_c g2 g0 hp) (AllIn.sub (by first | exact trivial | exact And.intro (by repeat first | exact .head _ | apply List.Mem.tail) trivial | exact And.intro (by repeat first | exact .head _ | apply List.Mem.tail) (And.intro (by repeat first | exact .head _ | apply List.Mem.tail) trivial))) ?_
          refine AJ_y 16 rfl (by kernel_rfl) (by kernel_rfl) rfl rfl (YJ_bin rfl rfl rfl) ?_
          refine AJ_done (by kernel_rfl) ?_
          refine QJ_then ?_
          refine CJ_cond rfl (fun h67 => ?_) (fun h67 => ?_)
          · try simp only [decide_eq_true_eq, decide_eq_false_iff_not, Bool.not_eq_true', Bool.not_eq_false', Bool.and_eq_true, Bool.and_eq_false_iff, beq_iff_eq, bne_iff_ne, beq_eq_false_iff_ne, bne_eq_false_iff_eq, ne_eq, decide_eq_decide] at h67
            have e1 : edge pts t 1 (p1, p2) := sgn_zero.1 h67
            refine CJ_seq ?_
            refine CJ_reg ?_
            refine LJ_y rfl rfl (YJ_move rfl) ?_
            refine LJ_y rfl rfl (YJ_move rfl) ?_
            refine LJ_y rfl rfl (YJ_move rfl) ?_
            refine LJ_y rfl rfl (YJ_min2 rfl rfl) ?_
            refine LJ_y rfl rfl (YJ_move rfl) ?_
            refine LJ_y rfl rfl (YJ_move rfl) ?_
            refine LJ_y rfl rfl (YJ_max2 rfl rfl) ?_
            refine LJ_y rfl rfl (YJ_build1 (cs := [_, _, _, _]) lay_42 rfl rfl rfl) ?_
            refine LJ_store (cs' := #[_, _, _, _]) (μ' := [_, _, _]) 1 rfl rfl rfl rfl tyi_42 rfl (Nat.le_of_ble_eq_true rfl) rfl rfl rfl ?_
            refine LJ_nil ?_
            refine QJ_then ?_
            refine CJ_ret ?_
            refine QJ_in_ret ?_
            refine QJ_then_ret ?_
            refine QJ_then_ret ?_
            refine QJ_in_ret ?_
            refine QJ_then_ret ?_
            refine QJ_fin (.inl rfl) (μ' := []) (μr := _) (φ' := []) (res_cell (vs := [_, _, _, _]) rfl rfl (by repeat first | exact .head _ | apply List.Mem.tail) tyi_42 rfl) (List.Perm.refl _) (fun _ h => nomatch h) ?_
            exact ⟨(congrArg plV (show place pts t i (p1, p2) = (_, _, _, _) from by unfold place; simp only [*, if_true, if_false, not_true_eq_false, not_false_eq_true]; try rfl)).symm, rfl, rfl⟩
          · try simp only [decide_eq_true_eq, decide_eq_false_iff_not, Bool.not_eq_true', Bool.not_eq_false', Bool.and_eq_true, Bool.and_eq_false_iff, beq_iff_eq, bne_iff_ne, beq_eq_false_iff_ne, bne_eq_false_iff_eq, ne_eq, decide_eq_decide] at h67
            have e1 : ¬ edge pts t 1 (p1, p2) := fun e => h67 (sgn_zero.2 e)
            refine CJ_skip ?_
            refine QJ_in_normal ?_
            refine QJ_then ?_
            refine CJ_reg ?_
            first | refine LJ_y rfl rfl (YJ_bin rfl rfl (iop_add (by omega))) ?_ | refine LJ_y rfl rfl (YJ_bin rfl rfl rfl) ?_
            refine LJ_y rfl rfl (YJ_move rfl) ?_
            refine LJ_nil ?_
            refine QJ_thenN ?_
            refine CN_succ ?_
            refine CJ_seq ?_
            refine CJ_reg ?_
            refine LJ_y rfl rfl (YJ_bin rfl rfl rfl) ?_
            refine LJ_nil ?_
            refine QJ_then ?_
            refine CJ_seq ?_
            refine CJ_condT rfl ?_
            refine CJ_skip ?_
            refine QJ_then ?_
            refine CJ_seq ?_
            refine CJ_block ?_
            refine CJ_seq ?_
            refine CJ_reg ?_
            refine LJ_y rfl rfl (YJ_move rfl) ?_
            refine LJ_y rfl rfl (YJ_assign rfl) ?_
            refine LJ_nil ?_
            refine QJ_then ?_
            refine CJ_seq ?_
            refine CJ_regD mix (by kernel_rfl) (fun _ _ _ _ _ h => h) _ _ (fun _ h => h) (fun _ h => h) ?_
            refine AJ_y 0 rfl (by kernel_rfl) (by kernel_rfl) rfl rfl (YJ_move rfl) ?_
            first | refine AJ_y 1 rfl (by kernel_rfl) (by kernel_rfl) rfl rfl (YJ_bin rfl rfl (iop_add (by omega))) ?_ | refine AJ_y 1 rfl (by kernel_rfl) (by kernel_rfl) rfl rfl (YJ_bin rfl rfl rfl) ?_
            refine AJ_y 2 rfl (by kernel_rfl) (by kernel_rfl) rfl rfl (YJ_rem rfl rfl (by first | decide | omega)) ?_
            refine AJ_val (v := .int .i64 0) (rfl) ?_
            first | refine AJ_y 3 rfl (by kernel_rfl) (by kernel_rfl) rfl rfl (YJ_ixArr rfl rfl arrt_34 (by omega) (by omega) rfl) ?_ | refine AJ_y 3 rfl (by kernel_rfl) (by kernel_rfl) rfl rfl (YJ_ixArrP rfl rfl arrt_34 (by omega) (by omega)) ?_
            first | refine AJ_y 4 rfl (by kernel_rfl) (by kernel_rfl) rfl rfl (YJ_loadL rfl tyi_3 (by repeat first | exact .head _ | apply List.Mem.tail) rfl) ?_ | refine AJ_y 4 rfl (by kernel_rfl) (by kernel_rfl) rfl rfl (YJ_loadFact rfl tyi_3 (by repeat first | exact .head _ | apply List.Mem.tail) rfl) ?_
            refine AJ_y 5 rfl (by kernel_rfl) (by kernel_rfl) rfl rfl (YJ_move rfl) ?_
            first | refine AJ_y 6 rfl (by kernel_rfl) (by kernel_rfl) rfl rfl (YJ_bin rfl rfl (iop_add (by omega))) ?_ | refine AJ_y 6 rfl (by kernel_rfl) (by kernel_rfl) rfl rfl (YJ_bin rfl rfl rfl) ?_
            refine AJ_y 7 rfl (by kernel_rfl) (by kernel_rfl) rfl rfl (YJ_rem rfl rfl (by first | decide | omega)) ?_
            refine AJ_val (v := .int .i64 1) (rfl) ?_
            first | refine AJ_y 8 rfl (by kernel_rfl) (by kernel_rfl) rfl rfl (YJ_ixArr rfl rfl arrt_34 (by omega) (by omega) rfl) ?_ | refine AJ_y 8 rfl (by kernel_rfl) (by kernel_rfl) rfl rfl (YJ_ixArrP rfl rfl arrt_34 (by omega) (by omega)) ?_
            first | refine AJ_y 9 rfl (by kernel_rfl) (by kernel_rfl) rfl rfl (YJ_loadL rfl tyi_3 (by repeat first | exact .head _ | apply List.Mem.tail) rfl) ?_ | refine AJ_y 9 rfl (by kernel_rfl) (by kernel_rfl) rfl rfl (YJ_loadFact rfl tyi_3 (by repeat first | exact .head _ | apply List.Mem.tail) rfl) ?_
            refine AJ_y 10 rfl (by kernel_rfl) (by kernel_rfl) rfl rfl (YJ_assign rfl) ?_
            refine AJ_y 11 rfl (by kernel_rfl) (by kernel_rfl) rfl rfl (YJ_assign rfl) ?_
            refine AJ_done (by kernel_rfl) ?_
            refine QJ_then ?_
            refine CJ_seq ?_
            refine CJ_regD mix (by kernel_rfl) (fun _ _ _ _ _ h => h) _ _ (fun _ h => h) (fun _ h => h) ?_
            refine AJ_y 0 rfl (by kernel_rfl) (by kernel_rfl) rfl rfl (YJ_move rfl) ?_
            refine AJ_y 1 rfl (by kernel_rfl) (by kernel_rfl) rfl rfl (YJ_nilCheck rfl) ?_
            first | refine AJ_y 2 rfl (by kernel_rfl) (by kernel_rfl) rfl rfl (YJ_fieldOwn rfl fld_57_0 rfl) ?_ | refine AJ_y 2 rfl (by kernel_rfl) (by kernel_rfl) rfl rfl (YJ_fieldAddr rfl fld_57_0) ?_
            refine AJ_y 3 rfl (by kernel_rfl) (by kernel_rfl) rfl rfl (YJ_loadFactP (A := some ⟨B, 0, none⟩) (j := 0) rfl rfl tyi_26 (by repeat first | exact .head _ | apply List.Mem.tail) rfl) ?_
            refine AJ_y 4 rfl (by kernel_rfl) (by kernel_rfl) rfl rfl (YJ_move rfl) ?_
            refine AJ_y 5 rfl (by kernel_rfl) (by kernel_rfl) rfl rfl (YJ_ixFact rfl rfl elt_26 (by repeat first | exact .head _ | apply List.Mem.tail) (by decide) (by omega) (by omega) (by omega)) ?_
            refine AJ_y 6 rfl (by kernel_rfl) (by kernel_rfl) rfl rfl (YJ_loadFactN (vs := [_, _]) (xs := ptCells pts) rfl tyi_23 (by repeat first | exact .head _ | apply List.Mem.tail) (ptCells_get (i := (t.v0).toNat) (by omega)) rfl) ?_
            refine AJ_y 7 rfl (by kernel_rfl) (by kernel_rfl) rfl rfl (YJ_move rfl) ?_
            refine AJ_y 8 rfl (by kernel_rfl) (by kernel_rfl) rfl rfl (YJ_nilCheck rfl) ?_
            first | refine AJ_y 9 rfl (by kernel_rfl) (by kernel_rfl) rfl rfl (YJ_fieldOwn rfl fld_57_0 rfl) ?_ | refine AJ_y 9 rfl (by kernel_rfl) (by kernel_rfl) rfl rfl (YJ_fieldAddr rfl fld_57_0) ?_
            refine AJ_y 10 rfl (by kernel_rfl) (by kernel_rfl) rfl rfl (YJ_loadFactP (A := some ⟨B, 0, none⟩) (j := 0) rfl rfl tyi_26 (by repeat first | exact .head _ | apply List.Mem.tail) rfl) ?_
            refine AJ_y 11 rfl (by kernel_rfl) (by kernel_rfl) rfl rfl (YJ_move rfl) ?_
            refine AJ_y 12 rfl (by kernel_rfl) (by kernel_rfl) rfl rfl (YJ_ixFact rfl rfl elt_26 (by repeat first | exact .head _ | apply List.Mem.tail) (by decide) (by omega) (by omega) (by omega)) ?_
            refine AJ_y 13 rfl (by kernel_rfl) (by kernel_rfl) rfl rfl (YJ_loadFactN (vs := [_, _]) (xs := ptCells pts) rfl tyi_23 (by repeat first | exact .head _ | apply List.Mem.tail) (ptCells_get (i := (t.v1).toNat) (by omega)) rfl) ?_
            first | refine AJ_y 14 rfl (by kernel_rfl) (by kernel_rfl) rfl rfl (YJ_loadN (vs := [_, _]) rfl tyi_23 (by repeat first | exact .head _ | apply List.Mem.tail) rfl rfl) ?_ | refine AJ_y 14 rfl (by kernel_rfl) (by kernel_rfl) rfl rfl (YJ_loadFactN (vs := [_, _]) rfl tyi_23 (by repeat first | exact .head _ | apply List.Mem.tail) rfl rfl) ?_
            refine AJ_call0 15 rfl (by kernel_rfl) rfl rfl rfl rfl rfl (orient_c g0 g1 hp) (AllIn.sub (by first | exact trivial | exact And.intro (by repeat first | exact .head _ | apply List.Mem.tail) trivial | exact And.intro (by repeat first | exact .head _ | apply List.Mem.tail) (And.intro (by repeat first | exact .head _ | apply List.Mem.tail) trivial))) ?_
            refine AJ_y 16 rfl (by kernel_rfl) (by kernel_rfl) rfl rfl (YJ_bin rfl rfl rfl) ?_
            refine AJ_done (by kernel_rfl) ?_
            refine QJ_then ?_
            refine CJ_cond rfl (fun h67 => ?_) (fun h67 => ?_)
            · try simp only [decide_eq_true_eq, decide_eq_false_iff_not, Bool.not_eq_true', Bool.not_eq_false', Bool.and_eq_true, Bool.and_eq_false_iff, beq_iff_eq, bne_iff_ne, beq_eq_false_iff_ne, bne_eq_false_iff_eq, ne_eq, decide_eq_decide] at h67
              have e2 : edge pts t 2 (p1, p2) := sgn_zero.1 h67
              refine CJ_seq ?_
              refine CJ_reg ?_
              refine LJ_y rfl rfl (YJ_move rfl) ?_
              refine LJ_y rfl rfl (YJ_move rfl) ?_
              refine LJ_y rfl rfl (YJ_move rfl) ?_
              refine LJ_y rfl rfl (YJ_min2 rfl rfl) ?_
              refine LJ_y rfl rfl (YJ_move rfl) ?_
              refine LJ_y rfl rfl (YJ_move rfl) ?_
              refine LJ_y rfl rfl (YJ_max2 rfl rfl) ?_
              refine LJ_y rfl rfl (YJ_build1 (cs := [_, _, _, _]) lay_42 rfl rfl rfl) ?_
              refine LJ_store (cs' := #[_, _, _, _]) (μ' := [_, _, _]) 1 rfl rfl rfl rfl tyi_42 rfl (Nat.le_of_ble_eq_true rfl) rfl rfl rfl ?_
              refine LJ_nil ?_
              refine QJ_then ?_
              refine CJ_ret ?_
              refine QJ_in_ret ?_
              refine QJ_then_ret ?_
              refine QJ_then_ret ?_
              refine QJ_in_ret ?_
              refine QJ_then_ret ?_
              refine QJ_fin (.inl rfl) (μ' := []) (μr := _) (φ' := []) (res_cell (vs := [_, _, _, _]) rfl rfl (by repeat first | exact .head _ | apply List.Mem.tail) tyi_42 rfl) (List.Perm.refl _) (fun _ h => nomatch h) ?_
              exact ⟨(congrArg plV (show place pts t i (p1, p2) = (_, _, _, _) from by unfold place; simp only [*, if_true, if_false, not_true_eq_false, not_false_eq_true]; try rfl)).symm, rfl, rfl⟩
            · try simp only [decide_eq_true_eq, decide_eq_false_iff_not, Bool.not_eq_true', Bool.not_eq_false', Bool.and_eq_true, Bool.and_eq_false_iff, beq_iff_eq, bne_iff_ne, beq_eq_false_iff_ne, bne_eq_false_iff_eq, ne_eq, decide_eq_decide] at h67
              have e2 : ¬ edge pts t 2 (p1, p2) := fun e => h67 (sgn_zero.2 e)
              refine CJ_skip ?_
              refine QJ_in_normal ?_
              refine QJ_then ?_
              refine CJ_reg ?_
              first | refine LJ_y rfl rfl (YJ_bin rfl rfl (iop_add (by omega))) ?_ | refine LJ_y rfl rfl (YJ_bin rfl rfl rfl) ?_
              refine LJ_y rfl rfl (YJ_move rfl) ?_
              refine LJ_nil ?_
              refine QJ_thenN ?_
              refine CN_succ ?_
              refine CJ_seq ?_
              refine CJ_reg ?_
              refine LJ_y rfl rfl (YJ_bin rfl rfl rfl) ?_
              refine LJ_nil ?_
              refine QJ_then ?_
              refine CJ_seq ?_
              refine CJ_condF rfl ?_
              refine CJ_exit ?_
              refine QJ_then_exit ?_
              refine QJ_then_exit ?_
              refine QJ_in_exit ?_
              refine QJ_then ?_
              refine CJ_seq ?_
              refine CJ_reg ?_
              refine LJ_y rfl rfl (YJ_move rfl) ?_
              refine LJ_y rfl rfl (YJ_build1 (cs := [_, _, _, _]) lay_42 rfl rfl rfl) ?_
              refine LJ_store (cs' := #[_, _, _, _]) (μ' := [_, _, _]) 1 rfl rfl rfl rfl tyi_42 rfl (Nat.le_of_ble_eq_true rfl) rfl rfl rfl ?_
              refine LJ_nil ?_
              refine QJ_then ?_
              refine CJ_ret ?_
              refine QJ_fin (.inl rfl) (μ' := []) (μr := _) (φ' := []) (res_cell (vs := [_, _, _, _]) rfl rfl (by repeat first | exact .head _ | apply List.Mem.tail) tyi_42 rfl) (List.Perm.refl _) (fun _ h => nomatch h) ?_
              exact ⟨(congrArg plV (show place pts t i (p1, p2) = (_, _, _, _) from by unfold place; simp only [*, if_true, if_false, not_true_eq_false, not_false_eq_true]; try rfl)).symm, rfl, rfl⟩

end Go.Proofs.Ytbanlhlggkdanaa
