/- The walk of what is right of a place. -/
import Derived.Test.YtbanlhlggkdanaaH5
set_option linter.unusedSimpArgs false
set_option linter.unusedVariables false
namespace Go.Proofs.Ytbanlhlggkdanaa
open Go.RowKit

theorem ent_54 : Enter Try.prog 54 = true := by kernel_rfl
theorem ent_22 : Enter Try.prog 22 = true := by kernel_rfl
theorem lay_46 : lay1 Try.prog 46 = some [.int .i64 0, .int .i64 0] := by kernel_rfl
theorem zer_4 : zer Try.prog 4 = some (.bool false) := by kernel_rfl
theorem zer_46 : zer Try.prog 46 = some (.agg #[.int .i64 0, .int .i64 0]) := by kernel_rfl
theorem tyi_46 : tyi Try.prog 46 = some (true, 2) := by kernel_rfl
theorem fld_42_0 : fld Try.prog 42 0 = some 0 := by kernel_rfl
theorem fld_42_2 : fld Try.prog 42 2 = some 2 := by kernel_rfl
theorem fld_42_3 : fld Try.prog 42 3 = some 3 := by kernel_rfl

set_option maxRecDepth 100000 in
set_option maxHeartbeats 1000000 in
theorem has_c {b : Nat} {t : Tr} {v : Int} : Tri Try.prog 54 [.int .i64 v, .pointer (some ⟨b, 0, none⟩)] [cellsR b #[.int .i64 t.v0, .int .i64 t.v1, .int .i64 t.v2, .int .i64 t.n0, .int .i64 t.n1, .int .i64 t.n2, .bool t.f0, .bool t.f1, .bool t.f2] 37] [] (Ret1 (.bool (decide (hasV t v))) (cellsR b #[.int .i64 t.v0, .int .i64 t.v1, .int .i64 t.v2, .int .i64 t.n0, .int .i64 t.n1, .int .i64 t.n2, .bool t.f0, .bool t.f1, .bool t.f2] 37)) := by
  refine Tri_of (N := 23) Try.func54 rfl ent_54 rfl rfl ?_
  intro w0 S0 T0
  show CJ _ _ _ [(0, _), (1, _)] _ _
  refine CJ_seq ?_
  refine CJ_reg ?_
  refine LJ_y rfl rfl (YJ_assign rfl) ?_
  refine LJ_nil ?_
  refine QJ_then ?_
  refine CJ_seq ?_
  refine CJ_reg ?_
  first | refine LJ_y rfl rfl (YJ_fieldOwn rfl fld_37_0 rfl) ?_ | refine LJ_y rfl rfl (YJ_fieldAddr rfl fld_37_0) ?_
  first | refine LJ_y rfl rfl (YJ_ixArr rfl rfl arrt_34 (by omega) (by omega) rfl) ?_ | refine LJ_y rfl rfl (YJ_ixArrP rfl rfl arrt_34 (by omega) (by omega)) ?_
  first | refine LJ_y rfl rfl (YJ_loadL rfl tyi_3 (by repeat first | exact .head _ | apply List.Mem.tail) rfl) ?_ | refine LJ_y rfl rfl (YJ_loadFact rfl tyi_3 (by repeat first | exact .head _ | apply List.Mem.tail) rfl) ?_
  refine LJ_y rfl rfl (YJ_move rfl) ?_
  refine LJ_y rfl rfl (YJ_bin rfl rfl rfl) ?_
  refine LJ_y rfl rfl (YJ_move rfl) ?_
  refine LJ_boolC (fun h9 => ?_) (fun h9 => ?_)
  · try simp only [decide_eq_true_eq, decide_eq_false_iff_not, Bool.not_eq_true', Bool.not_eq_false', Bool.and_eq_true, Bool.and_eq_false_iff, beq_iff_eq, bne_iff_ne, beq_eq_false_iff_ne, bne_eq_false_iff_eq, ne_eq, decide_eq_decide] at h9
    refine LJ_skip rfl rfl ?_
    refine LJ_skip rfl rfl ?_
    refine LJ_skip rfl rfl ?_
    refine LJ_skip rfl rfl ?_
    refine LJ_skip rfl rfl ?_
    refine LJ_y rfl rfl (YJ_pickT rfl rfl) ?_
    refine LJ_y rfl rfl (YJ_move rfl) ?_
    refine LJ_skip rfl rfl ?_
    refine LJ_skip rfl rfl ?_
    refine LJ_skip rfl rfl ?_
    refine LJ_skip rfl rfl ?_
    refine LJ_skip rfl rfl ?_
    refine LJ_y rfl rfl (YJ_pickT rfl rfl) ?_
    refine LJ_y rfl rfl (YJ_assign rfl) ?_
    refine LJ_nil ?_
    refine QJ_then ?_
    refine CJ_ret ?_
    refine QJ_fin (.inl rfl) (μ' := [_]) (μr := []) (φ' := []) (res_tmp rfl rfl) (permI [] rfl) (fun _ h => nomatch h) ?_
    exact ⟨congrArg Value.bool (by unfold hasV; simp [h9]), rfl, rfl⟩
  · try simp only [decide_eq_true_eq, decide_eq_false_iff_not, Bool.not_eq_true', Bool.not_eq_false', Bool.and_eq_true, Bool.and_eq_false_iff, beq_iff_eq, bne_iff_ne, beq_eq_false_iff_ne, bne_eq_false_iff_eq, ne_eq, decide_eq_decide] at h9
    first | refine LJ_y rfl rfl (YJ_fieldOwn rfl fld_37_0 rfl) ?_ | refine LJ_y rfl rfl (YJ_fieldAddr rfl fld_37_0) ?_
    first | refine LJ_y rfl rfl (YJ_ixArr rfl rfl arrt_34 (by omega) (by omega) rfl) ?_ | refine LJ_y rfl rfl (YJ_ixArrP rfl rfl arrt_34 (by omega) (by omega)) ?_
    first | refine LJ_y rfl rfl (YJ_loadL rfl tyi_3 (by repeat first | exact .head _ | apply List.Mem.tail) rfl) ?_ | refine LJ_y rfl rfl (YJ_loadFact rfl tyi_3 (by repeat first | exact .head _ | apply List.Mem.tail) rfl) ?_
    refine LJ_y rfl rfl (YJ_move rfl) ?_
    refine LJ_y rfl rfl (YJ_bin rfl rfl rfl) ?_
    refine LJ_y rfl rfl (YJ_pickF rfl rfl) ?_
    refine LJ_y rfl rfl (YJ_move rfl) ?_
    refine LJ_boolC (fun h16 => ?_) (fun h16 => ?_)
    · try simp only [decide_eq_true_eq, decide_eq_false_iff_not, Bool.not_eq_true', Bool.not_eq_false', Bool.and_eq_true, Bool.and_eq_false_iff, beq_iff_eq, bne_iff_ne, beq_eq_false_iff_ne, bne_eq_false_iff_eq, ne_eq, decide_eq_decide] at h16
      refine LJ_skip rfl rfl ?_
      refine LJ_skip rfl rfl ?_
      refine LJ_skip rfl rfl ?_
      refine LJ_skip rfl rfl ?_
      refine LJ_skip rfl rfl ?_
      refine LJ_y rfl rfl (YJ_pickT rfl rfl) ?_
      refine LJ_y rfl rfl (YJ_assign rfl) ?_
      refine LJ_nil ?_
      refine QJ_then ?_
      refine CJ_ret ?_
      refine QJ_fin (.inl rfl) (μ' := [_]) (μr := []) (φ' := []) (res_tmp rfl rfl) (permI [] rfl) (fun _ h => nomatch h) ?_
      exact ⟨congrArg Value.bool (by unfold hasV; simp [h9, h16]), rfl, rfl⟩
    · try simp only [decide_eq_true_eq, decide_eq_false_iff_not, Bool.not_eq_true', Bool.not_eq_false', Bool.and_eq_true, Bool.and_eq_false_iff, beq_iff_eq, bne_iff_ne, beq_eq_false_iff_ne, bne_eq_false_iff_eq, ne_eq, decide_eq_decide] at h16
      first | refine LJ_y rfl rfl (YJ_fieldOwn rfl fld_37_0 rfl) ?_ | refine LJ_y rfl rfl (YJ_fieldAddr rfl fld_37_0) ?_
      first | refine LJ_y rfl rfl (YJ_ixArr rfl rfl arrt_34 (by omega) (by omega) rfl) ?_ | refine LJ_y rfl rfl (YJ_ixArrP rfl rfl arrt_34 (by omega) (by omega)) ?_
      first | refine LJ_y rfl rfl (YJ_loadL rfl tyi_3 (by repeat first | exact .head _ | apply List.Mem.tail) rfl) ?_ | refine LJ_y rfl rfl (YJ_loadFact rfl tyi_3 (by repeat first | exact .head _ | apply List.Mem.tail) rfl) ?_
      refine LJ_y rfl rfl (YJ_move rfl) ?_
      refine LJ_y rfl rfl (YJ_bin rfl rfl rfl) ?_
      refine LJ_y rfl rfl (YJ_pickF rfl rfl) ?_
      refine LJ_y rfl rfl (YJ_assign rfl) ?_
      refine LJ_nil ?_
      refine QJ_then ?_
      refine CJ_ret ?_
      refine QJ_fin (.inl rfl) (μ' := [_]) (μr := []) (φ' := []) (res_tmp rfl rfl) (permI [] rfl) (fun _ h => nomatch h) ?_
      exact ⟨congrArg Value.bool (by unfold hasV; simp [h9, h16]), rfl, rfl⟩


theorem ptAt_def {pts : List (Int × Int)} {v : Int} : ptAt pts v = pts.getD v.toNat (0, 0) := rfl
theorem sgn_else {n : Int} (h1 : ¬ sgn n = 1) (h0 : ¬ sgn n = 0) : n < 0 := by have := sgn_cases n; omega
/-- how many edges of a triangle, of the first k, don't have a point beyond them -/
def cnt (pts : List (Int × Int)) (t : Tr) (p : Int × Int) : Nat → Int
  | 0 => 0
  | k + 1 => cnt pts t p k + if bey pts t k p then 0 else 1
theorem cnt_step {pts : List (Int × Int)} {t : Tr} {p : Int × Int} {k : Nat} (_ : k < 3) : cnt pts t p (k + 1) = cnt pts t p k + if bey pts t k p then 0 else 1 := rfl
theorem cnt_three {pts : List (Int × Int)} {t : Tr} {p : Int × Int} : cnt pts t p 3 = 3 ↔ hld pts t p := by
  unfold hld
  simp only [cnt]
  by_cases h0 : bey pts t 0 p <;> by_cases h1 : bey pts t 1 p <;> by_cases h2 : bey pts t 2 p <;> simp [h0, h1, h2]
theorem r_three {pts : List (Int × Int)} {p : Int × Int} {t : Tr} {s : Int × Int × Int} {k : Nat} (hk : k < 3) : ([0, 1, 2].take (k + 1)).foldl (rStep pts p t) s = rStep pts p t (([0, 1, 2].take k).foldl (rStep pts p t) s) k := by
  match k, hk with
  | 0, _ => rfl
  | 1, _ => rfl
  | 2, _ => rfl


set_option maxRecDepth 100000 in
set_option maxHeartbeats 16000000 in
theorem rgt_c {B : Nat} {h : Mh} {pts : List (Int × Int)} {tris : List Tr} {p1 p2 x1 x2 x3 x4 : Int} (hP : ∀ j, j < pts.length → P2 (pts.getD j (0, 0)).1 (pts.getD j (0, 0)).2) (hT : okTris pts tris) (hG : gOk pts tris) (hlen : tris.length ≤ 1073741824) (hp : P2 p1 p2) : Tri Try.prog 22 [.pointer (some ⟨B, 0, none⟩), ptv p1 p2, .agg #[.int .i64 x1, .int .i64 x2, .int .i64 x3, .int .i64 x4]] [] (meshFs B h pts tris) (Ret0 (.bool (rght pts tris (p1, p2) (x1, x2, x3, x4)))) := by
  refine Tri_ofM (N := 331) Try.func22 rfl ent_22 rfl rfl ?_
  intro w0 S0 T0
  show CJ _ _ _ [(0, _), (1, _), (2, _)] _ _
  refine CJ_seq ?_
  refine CJ_reg ?_
  refine LJ_box (cs := #[_]) rfl rfl rfl rfl ?_
  intro b1
  refine LJ_box (cs := #[_, _]) rfl rfl rfl rfl ?_
  intro b2
  refine LJ_box (cs := #[_, _, _, _]) rfl rfl rfl rfl ?_
  intro b3
  refine LJ_y rfl rfl (YJ_assign rfl) ?_
  refine LJ_nil ?_
  refine QJ_then ?_
  refine CJ_seq ?_
  refine CJ_seq ?_
  refine CJ_regD mix (by kernel_rfl) (fun _ _ _ _ _ h => h) _ _ (fun _ h => h) (fun _ h => h) ?_
  first | refine AJ_y 0 rfl (by kernel_rfl) (by kernel_rfl) rfl rfl (YJ_fieldOwn rfl fld_42_1 rfl) ?_ | refine AJ_y 0 rfl (by kernel_rfl) (by kernel_rfl) rfl rfl (YJ_fieldAddr rfl fld_42_1) ?_
  first | refine AJ_y 1 rfl (by kernel_rfl) (by kernel_rfl) rfl rfl (YJ_loadL rfl tyi_3 (by repeat first | exact .head _ | apply List.Mem.tail) rfl) ?_ | refine AJ_y 1 rfl (by kernel_rfl) (by kernel_rfl) rfl rfl (YJ_loadFact rfl tyi_3 (by repeat first | exact .head _ | apply List.Mem.tail) rfl) ?_
  refine AJ_y 2 rfl (by kernel_rfl) (by kernel_rfl) rfl rfl (YJ_bin rfl rfl rfl) ?_
  refine AJ_y 3 rfl (by kernel_rfl) (by kernel_rfl) rfl rfl (YJ_move rfl) ?_
  refine AJ_boolC (fun h26 => ?_) (fun h26 => ?_)
  · try simp only [decide_eq_true_eq, decide_eq_false_iff_not, Bool.not_eq_true', Bool.not_eq_false', Bool.and_eq_true, Bool.and_eq_false_iff, beq_iff_eq, bne_iff_ne, beq_eq_false_iff_ne, bne_eq_false_iff_eq, ne_eq, decide_eq_decide] at h26
    refine AJ_skip 4 rfl (by kernel_rfl) (by kernel_rfl) rfl rfl ?_
    refine AJ_skip 5 rfl (by kernel_rfl) (by kernel_rfl) rfl rfl ?_
    refine AJ_skip 6 rfl (by kernel_rfl) (by kernel_rfl) rfl rfl ?_
    refine AJ_skip 7 rfl (by kernel_rfl) (by kernel_rfl) rfl rfl ?_
    refine AJ_skip 8 rfl (by kernel_rfl) (by kernel_rfl) rfl rfl ?_
    refine AJ_skip 9 rfl (by kernel_rfl) (by kernel_rfl) rfl rfl ?_
    refine AJ_skip 10 rfl (by kernel_rfl) (by kernel_rfl) rfl rfl ?_
    refine AJ_skip 11 rfl (by kernel_rfl) (by kernel_rfl) rfl rfl ?_
    refine AJ_y 12 rfl (by kernel_rfl) (by kernel_rfl) rfl rfl (YJ_pickT rfl rfl) ?_
    refine AJ_done (by kernel_rfl) ?_
    refine QJ_then ?_
    refine CJ_condT rfl ?_
    refine CJ_seq ?_
    refine CJ_reg ?_
    refine LJ_y rfl rfl (YJ_assign rfl) ?_
    refine LJ_nil ?_
    refine QJ_then ?_
    refine CJ_ret ?_
    refine QJ_then_ret ?_
    refine QJ_finM (.inl rfl) [] rfl (μ' := []) (μr := [_, _, _]) (φ' := []) (res_tmp rfl rfl) (permI [] rfl) (fun _ h => nomatch h) ?_
    exact ⟨congrArg Value.bool (by unfold rght; rw [if_pos h26]), rfl, rfl⟩
  · try simp only [decide_eq_true_eq, decide_eq_false_iff_not, Bool.not_eq_true', Bool.not_eq_false', Bool.and_eq_true, Bool.and_eq_false_iff, beq_iff_eq, bne_iff_ne, beq_eq_false_iff_ne, bne_eq_false_iff_eq, ne_eq, decide_eq_decide] at h26
    first | refine AJ_y 4 rfl (by kernel_rfl) (by kernel_rfl) rfl rfl (YJ_fieldOwn rfl fld_42_1 rfl) ?_ | refine AJ_y 4 rfl (by kernel_rfl) (by kernel_rfl) rfl rfl (YJ_fieldAddr rfl fld_42_1) ?_
    first | refine AJ_y 5 rfl (by kernel_rfl) (by kernel_rfl) rfl rfl (YJ_loadL rfl tyi_3 (by repeat first | exact .head _ | apply List.Mem.tail) rfl) ?_ | refine AJ_y 5 rfl (by kernel_rfl) (by kernel_rfl) rfl rfl (YJ_loadFact rfl tyi_3 (by repeat first | exact .head _ | apply List.Mem.tail) rfl) ?_
    first | refine AJ_y 6 rfl (by kernel_rfl) (by kernel_rfl) rfl rfl (YJ_loadL rfl tyi_28 (by repeat first | exact .head _ | apply List.Mem.tail) rfl) ?_ | refine AJ_y 6 rfl (by kernel_rfl) (by kernel_rfl) rfl rfl (YJ_loadFact rfl tyi_28 (by repeat first | exact .head _ | apply List.Mem.tail) rfl) ?_
    refine AJ_y 7 rfl (by kernel_rfl) (by kernel_rfl) rfl rfl (YJ_nilCheck rfl) ?_
    first | refine AJ_y 8 rfl (by kernel_rfl) (by kernel_rfl) rfl rfl (YJ_fieldOwn rfl fld_57_1 rfl) ?_ | refine AJ_y 8 rfl (by kernel_rfl) (by kernel_rfl) rfl rfl (YJ_fieldAddr rfl fld_57_1) ?_
    refine AJ_y 9 rfl (by kernel_rfl) (by kernel_rfl) rfl rfl (YJ_loadFactP (A := some ⟨B, 0, none⟩) (j := 1) rfl rfl tyi_54 (by repeat first | exact .head _ | apply List.Mem.tail) rfl) ?_
    refine AJ_y 10 rfl (by kernel_rfl) (by kernel_rfl) rfl rfl (YJ_len rfl ulen_54 rfl) ?_
    refine AJ_y 11 rfl (by kernel_rfl) (by kernel_rfl) rfl rfl (YJ_bin rfl rfl rfl) ?_
    refine AJ_y 12 rfl (by kernel_rfl) (by kernel_rfl) rfl rfl (YJ_pickF rfl rfl) ?_
    refine AJ_done (by kernel_rfl) ?_
    refine QJ_then ?_
    refine CJ_cond rfl (fun h35 => ?_) (fun h35 => ?_)
    · try simp only [decide_eq_true_eq, decide_eq_false_iff_not, Bool.not_eq_true', Bool.not_eq_false', Bool.and_eq_true, Bool.and_eq_false_iff, beq_iff_eq, bne_iff_ne, beq_eq_false_iff_ne, bne_eq_false_iff_eq, ne_eq, decide_eq_decide] at h35
      refine CJ_seq ?_
      refine CJ_reg ?_
      refine LJ_y rfl rfl (YJ_assign rfl) ?_
      refine LJ_nil ?_
      refine QJ_then ?_
      refine CJ_ret ?_
      refine QJ_then_ret ?_
      refine QJ_finM (.inl rfl) [] rfl (μ' := []) (μr := [_, _, _]) (φ' := []) (res_tmp rfl rfl) (permI [] rfl) (fun _ h => nomatch h) ?_
      exact ⟨congrArg Value.bool (by unfold rght; rw [if_neg (by show ¬ x2 < 0; omega)]; dsimp only; rw [List.getElem?_eq_none (by omega)]), rfl, rfl⟩
    · try simp only [decide_eq_true_eq, decide_eq_false_iff_not, Bool.not_eq_true', Bool.not_eq_false', Bool.and_eq_true, Bool.and_eq_false_iff, beq_iff_eq, bne_iff_ne, beq_eq_false_iff_ne, bne_eq_false_iff_eq, ne_eq, decide_eq_decide] at h35
      refine CJ_skip ?_
      refine QJ_then ?_
      refine CJ_seq ?_
      obtain ⟨t, ht⟩ := get_of_lt (tris := tris) (i := x2) (by omega) (by omega)
      refine CJ_regDA mix (by kernel_rfl) (fun _ _ _ _ _ h => h) _ _ (fun _ h => h) (fun _ h => h) [⟨8, 7, 37, #[.int .i64 0, .int .i64 0, .int .i64 0, .int .i64 0, .int .i64 0, .int .i64 0, .bool false, .bool false, .bool false]⟩] 9 rfl (And.intro ⟨_, _, _, _, rfl, zer_37, rfl⟩ (trivial)) rfl rfl ?_
      first | refine AA_y 0 rfl (by kernel_rfl) rfl rfl rfl (YJ_loadL rfl tyi_28 (by repeat first | exact .head _ | apply List.Mem.tail) rfl) ?_ | refine AA_y 0 rfl (by kernel_rfl) rfl rfl rfl (YJ_loadFact rfl tyi_28 (by repeat first | exact .head _ | apply List.Mem.tail) rfl) ?_
      refine AA_y 1 rfl (by kernel_rfl) rfl rfl rfl (YJ_nilCheck rfl) ?_
      first | refine AA_y 2 rfl (by kernel_rfl) rfl rfl rfl (YJ_fieldOwn rfl fld_57_1 rfl) ?_ | refine AA_y 2 rfl (by kernel_rfl) rfl rfl rfl (YJ_fieldAddr rfl fld_57_1) ?_
      refine AA_y 3 rfl (by kernel_rfl) rfl rfl rfl (YJ_loadFactP (A := some ⟨B, 0, none⟩) (j := 1) rfl rfl tyi_54 (by repeat first | exact .head _ | apply List.Mem.tail) rfl) ?_
      first | refine AA_y 4 rfl (by kernel_rfl) rfl rfl rfl (YJ_fieldOwn rfl fld_42_1 rfl) ?_ | refine AA_y 4 rfl (by kernel_rfl) rfl rfl rfl (YJ_fieldAddr rfl fld_42_1) ?_
      first | refine AA_y 5 rfl (by kernel_rfl) rfl rfl rfl (YJ_loadL rfl tyi_3 (by repeat first | exact .head _ | apply List.Mem.tail) rfl) ?_ | refine AA_y 5 rfl (by kernel_rfl) rfl rfl rfl (YJ_loadFact rfl tyi_3 (by repeat first | exact .head _ | apply List.Mem.tail) rfl) ?_
      refine AA_y 6 rfl (by kernel_rfl) rfl rfl rfl (YJ_ixFact rfl rfl elt_54 (by repeat first | exact .head _ | apply List.Mem.tail) (by decide) (by omega) (by omega) (by omega)) ?_
      refine AA_y 7 rfl (by kernel_rfl) rfl rfl rfl (YJ_loadFactN (vs := [.int .i64 t.v0, .int .i64 t.v1, .int .i64 t.v2, .int .i64 t.n0, .int .i64 t.n1, .int .i64 t.n2, .bool t.f0, .bool t.f1, .bool t.f2]) (xs := trCells tris) rfl tyi_37 (by repeat first | exact .head _ | apply List.Mem.tail) (trCells_row ht) rfl) ?_
      refine AA_end (by kernel_rfl) rfl ?_
      intro bs hbs
      obtain ⟨b4, rfl⟩ := len_1 hbs
      clear hbs
      show AJ _ _ _ _ _ _ _ ((7, .pointer (some ⟨b4, 0, none⟩)) :: _) (cellsR b4 _ _ :: _) _
      refine AJ_store (cs' := #[_, _, _, _, _, _, _, _, _]) (μ' := [_, _, _, _]) 9 0 rfl (by kernel_rfl) rfl rfl rfl rfl tyi_37 rfl (Nat.le_of_ble_eq_true rfl) rfl (wr_all rfl) rfl (fun _ => AllIn.sub (And.intro (by repeat first | exact .head _ | apply List.Mem.tail) (And.intro (by repeat first | exact .head _ | apply List.Mem.tail) (And.intro (by repeat first | exact .head _ | apply List.Mem.tail) (trivial))))) ?_
      refine AJ_done (by kernel_rfl) ?_
      refine QJ_then ?_
      refine CJ_seq ?_
      refine CJ_reg ?_
      refine LJ_y rfl rfl (YJ_makeFunc (vs := []) (us := [_]) rfl rfl) ?_
      refine LJ_y rfl rfl (YJ_assign rfl) ?_
      refine LJ_nil ?_
      refine QJ_then ?_
      refine CJ_seq ?_
      refine CJ_reg ?_
      refine LJ_y rfl rfl (YJ_build1 (cs := [_, _]) lay_46 rfl rfl rfl) ?_
      refine LJ_alloc (cs := #[_]) rfl rfl zer_4 rfl ?_
      intro b5
      refine LJ_alloc (cs := #[_]) rfl rfl zer_3 rfl ?_
      intro b6
      refine LJ_alloc (cs := #[_, _]) rfl rfl zer_46 rfl ?_
      intro b7
      refine LJ_store (cs' := #[_]) (μ' := [_, _, _, _, _, _, _]) 2 rfl rfl rfl rfl tyi_4 rfl (Nat.le_of_ble_eq_true rfl) rfl rfl rfl ?_
      refine LJ_store (cs' := #[_]) (μ' := [_, _, _, _, _, _, _]) 1 rfl rfl rfl rfl tyi_3 rfl (Nat.le_of_ble_eq_true rfl) rfl rfl rfl ?_
      refine LJ_store (cs' := #[_, _]) (μ' := [_, _, _, _, _, _, _]) 0 rfl rfl rfl rfl tyi_46 rfl (Nat.le_of_ble_eq_true rfl) rfl rfl rfl ?_
      refine LJ_nil ?_
      refine QJ_then ?_
      refine CJ_seq ?_
      refine CJ_reg ?_
      first | refine LJ_y rfl rfl (YJ_loadL rfl tyi_28 (by repeat first | exact .head _ | apply List.Mem.tail) rfl) ?_ | refine LJ_y rfl rfl (YJ_loadFact rfl tyi_28 (by repeat first | exact .head _ | apply List.Mem.tail) rfl) ?_
      refine LJ_callX rfl rfl rfl rfl rfl (all_c (B := B)) (fun _ h => nomatch h) ?_
      intro bA _
      refine LJ_y rfl rfl (YJ_assign rfl) ?_
      refine LJ_nil ?_
      refine QJ_then ?_
      refine CJ_seq ?_
      refine CJ_seq ?_
      refine CJ_reg ?_
      refine LJ_y rfl rfl (YJ_move rfl) ?_
      refine LJ_y rfl rfl (YJ_eqs rfl rfl (fun w => eqs_fn ..)) ?_
      refine LJ_nil ?_
      refine QJ_then ?_
      refine CJ_condF rfl ?_
      refine CJ_skip ?_
      refine QJ_then ?_
      refine CJ_seq ?_
      refine CJ_seq ?_
      refine CJ_reg ?_
      refine LJ_y rfl rfl (YJ_move rfl) ?_
      refine LJ_nil ?_
      refine QJ_then ?_
      refine CJ_block ?_
      refine CJ_rangeFunc (μr := [_, _]) rfl (all_it (h := h) (pts := pts) (tris := tris) hlen) (fun r h => h) (fun _ => rfl) (by kernel_rfl) (L := { ι := Bool × Int × Int × Int, I := fun pre s => s = pre.foldl (rTri pts (p1, p2)) (false, -1, 0, 0), F := fun _ s => ([cellsR b5 #[.bool s.1] 4, cellsR b6 #[.int .i64 s.2.1] 3, cellsR b7 #[.int .i64 s.2.2.1, .int .i64 s.2.2.2] 46, cellsR b2 #[.int .i64 p1, .int .i64 p2] 23, cellsR b1 #[.pointer (some ⟨B, 0, none⟩)] 28], []), κ := Unit, Ix := fun _ _ _ => False, Fx := fun _ _ => ([], []) }) (false, -1, 0, 0) rfl (permI [2, 1, 0, 2, 2] rfl) (fun _ h => nomatch h) ?_ ?_ ?_
      · intro lR DR fnR tmpsR WR SR TR pre xR iR hpre hI
        obtain ⟨m, t⟩ := xR
        obtain ⟨hti, htr, hto⟩ := okAt hT hpre
        obtain ⟨iR, hiR⟩ : ∃ s : Bool × Int × Int × Int, iR = s := ⟨_, rfl⟩
        subst hiR
        show RJ _ _ _ _ _ ((52, _) :: (51, _) :: _) (objR lR _ :: defR DR :: _ :: _ :: _ :: _ :: _ :: []) _
        refine RJ_reg (by kernel_rfl) ?_
        refine LJ_alloc (cs := #[_, _, _, _, _, _, _, _, _]) rfl rfl zer_37 rfl ?_
        intro b8
        refine LJ_store (cs' := #[_, _, _, _, _, _, _, _, _]) (μ' := [_, _, _, _, _, _, _, _]) 0 rfl rfl rfl rfl tyi_37 rfl (Nat.le_of_ble_eq_true rfl) rfl (wr_all rfl) rfl ?_
        refine LJ_nil ?_
        refine QJ_begin (μr := [_, _, _, _, _, _, _]) (permI [1] rfl) ?_
        refine RJ_block ?_
        refine RJ_seq ?_
        refine RJ_reg (by kernel_rfl) ?_
        refine LJ_y rfl rfl (YJ_assign rfl) ?_
        refine LJ_y rfl rfl (YJ_assign rfl) ?_
        refine LJ_nil ?_
        refine QJ_thenR (by repeat with_reducible first | exact no_round | exact no_begin | apply no_then | apply no_block) ?_
        refine RJ_seq ?_
        refine RJ_seq ?_
        refine RJ_reg (by kernel_rfl) ?_
        refine LJ_y rfl rfl (YJ_move rfl) ?_
        refine LJ_nil ?_
        refine QJ_thenR (by repeat with_reducible first | exact no_round | exact no_begin | apply no_then | apply no_block) ?_
        refine RJ_block ?_
        refine RJ_loopF (F := fun (i : Nat × Int × Int × Int × Int × Int) => ⟨[(3, .pointer (some ⟨b1, 0, none⟩)), (4, .pointer (some ⟨b2, 0, none⟩)), (9, .pointer (some ⟨b5, 0, none⟩)), (10, .pointer (some ⟨b6, 0, none⟩)), (11, .pointer (some ⟨b7, 0, none⟩)), (14, .pointer (some ⟨b8, 0, none⟩)), (15, .int .i64 i.2.1), (16, .int .i64 i.2.2.1), (53, .int .i64 (i.1 : Nat))], [cellsR b6 #[.int .i64 i.2.2.2.1] 3, cellsR b7 #[.int .i64 i.2.2.2.2.1, .int .i64 i.2.2.2.2.2] 46], []⟩) (I := fun (i : Nat × Int × Int × Int × Int × Int) => i.1 ≤ 3 ∧ i.2.1 + i.2.2.1 = cnt pts t (p1, p2) i.1 ∧ (0 ≤ i.2.1 ∧ i.2.1 ≤ i.1) ∧ (0 ≤ i.2.2.1 ∧ i.2.2.1 ≤ i.1) ∧ (i.2.2.2.1, i.2.2.2.2.1, i.2.2.2.2.2) = ([0, 1, 2].take i.1).foldl (rStep pts (p1, p2) t) iR.2) (m := fun (i : Nat × Int × Int × Int × Int × Int) => 3 - i.1) (0, 0, 0, iR.2) (μr := [_, _, _, _, _, _]) ⟨Nat.zero_le _, rfl, ⟨Int.le_refl _, Int.le_refl _⟩, ⟨Int.le_refl _, Int.le_refl _⟩, rfl⟩ (And.intro rfl (And.intro rfl (And.intro rfl (And.intro rfl (And.intro rfl (And.intro rfl (And.intro rfl (And.intro rfl (And.intro rfl (trivial)))))))))) (permI [4, 4] rfl) (fun _ h => nomatch h) ?_
        rintro ⟨k, n, z, at_, e1, e2⟩ ⟨hk, hc, hn, hz, hs⟩
        try dsimp only at hk
        try dsimp only at hc
        try dsimp only at hn
        try dsimp only at hz
        try dsimp only at hs
        show RJ _ _ _ _ _ [(3, .pointer (some ⟨b1, 0, none⟩)), (4, .pointer (some ⟨b2, 0, none⟩)), (9, .pointer (some ⟨b5, 0, none⟩)), (10, .pointer (some ⟨b6, 0, none⟩)), (11, .pointer (some ⟨b7, 0, none⟩)), (14, .pointer (some ⟨b8, 0, none⟩)), (15, .int .i64 n), (16, .int .i64 z), (53, .int .i64 (k : Nat))] (cellsR b6 #[.int .i64 at_] 3 :: cellsR b7 #[.int .i64 e1, .int .i64 e2] 46 :: _ :: _ :: _ :: _ :: _ :: _ :: _) _
        refine RJ_seq ?_
        refine RJ_reg (by kernel_rfl) ?_
        refine LJ_y rfl rfl (YJ_bin rfl rfl rfl) ?_
        refine LJ_nil ?_
        refine QJ_thenR (by repeat with_reducible first | exact no_round | exact no_begin | apply no_then | apply no_block) ?_
        refine RJ_seq ?_
        refine RJ_cond rfl (fun h54 => ?_) (fun h54 => ?_)
        · try simp only [decide_eq_true_eq, decide_eq_false_iff_not, Bool.not_eq_true', Bool.not_eq_false', Bool.and_eq_true, Bool.and_eq_false_iff, beq_iff_eq, bne_iff_ne, beq_eq_false_iff_ne, bne_eq_false_iff_eq, ne_eq, decide_eq_decide] at h54
          have hk3 : k < 3 := by omega
          have ha := ok_v hto (Nat.mod_lt (k + 1) (by decide) : (k + 1) % 3 < 3)
          have hb := ok_v hto (Nat.mod_lt (k + 2) (by decide) : (k + 2) % 3 < 3)
          obtain ⟨ha0, ha1⟩ := ha
          obtain ⟨hb0, hb1⟩ := hb
          have hpa := hP (t.v ((k + 1) % 3)).toNat (by omega)
          have hpb := hP (t.v ((k + 2) % 3)).toNat (by omega)
          refine RJ_skip ?_
          refine QJ_thenR (by repeat with_reducible first | exact no_round | exact no_begin | apply no_then | apply no_block) ?_
          refine RJ_seq ?_
          refine RJ_block ?_
          refine RJ_seq ?_
          refine RJ_reg (by kernel_rfl) ?_
          refine LJ_y rfl rfl (YJ_move rfl) ?_
          refine LJ_y rfl rfl (YJ_assign rfl) ?_
          refine LJ_nil ?_
          refine QJ_thenR (by repeat with_reducible first | exact no_round | exact no_begin | apply no_then | apply no_block) ?_
          refine RJ_seq ?_
          refine RJ_regD mix (by kernel_rfl) (fun _ _ _ _ _ h => h) _ _ (fun _ h => h) (fun _ h => h) (by kernel_rfl) ?_
          refine AJ_y 0 rfl (by kernel_rfl) (by kernel_rfl) rfl rfl (YJ_move rfl) ?_
          first | refine AJ_y 1 rfl (by kernel_rfl) (by kernel_rfl) rfl rfl (YJ_bin rfl rfl (iop_add (by omega))) ?_ | refine AJ_y 1 rfl (by kernel_rfl) (by kernel_rfl) rfl rfl (YJ_bin rfl rfl rfl) ?_
          refine AJ_y 2 rfl (by kernel_rfl) (by kernel_rfl) rfl rfl (YJ_rem rfl rfl (by first | decide | omega)) ?_
          refine AJ_val (v := .int .i64 (((k + 1) % 3 : Nat) : Int)) (congrArg (Value.int .i64) (tm3 (j := 1) hk3 (by decide))) ?_
          first | refine AJ_y 3 rfl (by kernel_rfl) (by kernel_rfl) rfl rfl (YJ_fieldOwn rfl fld_37_0 rfl) ?_ | refine AJ_y 3 rfl (by kernel_rfl) (by kernel_rfl) rfl rfl (YJ_fieldAddr rfl fld_37_0) ?_
          refine AJ_y 4 rfl (by kernel_rfl) (by kernel_rfl) rfl rfl (YJ_ixArr rfl rfl arrt_34 (by omega) (by omega) rfl) ?_
          refine AJ_y 5 rfl (by kernel_rfl) (by kernel_rfl) rfl rfl (YJ_load1 rfl tyi_3 (by repeat first | exact .head _ | apply List.Mem.tail) (v_get (Nat.mod_lt (k + 1) (by decide)))) ?_
          refine AJ_y 6 rfl (by kernel_rfl) (by kernel_rfl) rfl rfl (YJ_move rfl) ?_
          first | refine AJ_y 7 rfl (by kernel_rfl) (by kernel_rfl) rfl rfl (YJ_bin rfl rfl (iop_add (by omega))) ?_ | refine AJ_y 7 rfl (by kernel_rfl) (by kernel_rfl) rfl rfl (YJ_bin rfl rfl rfl) ?_
          refine AJ_y 8 rfl (by kernel_rfl) (by kernel_rfl) rfl rfl (YJ_rem rfl rfl (by first | decide | omega)) ?_
          refine AJ_val (v := .int .i64 (((k + 2) % 3 : Nat) : Int)) (congrArg (Value.int .i64) (tm3 (j := 2) hk3 (by decide))) ?_
          first | refine AJ_y 9 rfl (by kernel_rfl) (by kernel_rfl) rfl rfl (YJ_fieldOwn rfl fld_37_0 rfl) ?_ | refine AJ_y 9 rfl (by kernel_rfl) (by kernel_rfl) rfl rfl (YJ_fieldAddr rfl fld_37_0) ?_
          refine AJ_y 10 rfl (by kernel_rfl) (by kernel_rfl) rfl rfl (YJ_ixArr rfl rfl arrt_34 (by omega) (by omega) rfl) ?_
          refine AJ_y 11 rfl (by kernel_rfl) (by kernel_rfl) rfl rfl (YJ_load1 rfl tyi_3 (by repeat first | exact .head _ | apply List.Mem.tail) (v_get (Nat.mod_lt (k + 2) (by decide)))) ?_
          refine AJ_y 12 rfl (by kernel_rfl) (by kernel_rfl) rfl rfl (YJ_assign rfl) ?_
          refine AJ_y 13 rfl (by kernel_rfl) (by kernel_rfl) rfl rfl (YJ_assign rfl) ?_
          refine AJ_done (by kernel_rfl) ?_
          refine QJ_thenR (by repeat with_reducible first | exact no_round | exact no_begin | apply no_then | apply no_block) ?_
          refine RJ_seq ?_
          refine RJ_seq ?_
          refine RJ_regD mix (by kernel_rfl) (fun _ _ _ _ _ h => h) _ _ (fun _ h => h) (fun _ h => h) (by kernel_rfl) ?_
          first | refine AJ_y 0 rfl (by kernel_rfl) (by kernel_rfl) rfl rfl (YJ_loadL rfl tyi_28 (by repeat first | exact .head _ | apply List.Mem.tail) rfl) ?_ | refine AJ_y 0 rfl (by kernel_rfl) (by kernel_rfl) rfl rfl (YJ_loadFact rfl tyi_28 (by repeat first | exact .head _ | apply List.Mem.tail) rfl) ?_
          refine AJ_y 1 rfl (by kernel_rfl) (by kernel_rfl) rfl rfl (YJ_nilCheck rfl) ?_
          first | refine AJ_y 2 rfl (by kernel_rfl) (by kernel_rfl) rfl rfl (YJ_fieldOwn rfl fld_57_0 rfl) ?_ | refine AJ_y 2 rfl (by kernel_rfl) (by kernel_rfl) rfl rfl (YJ_fieldAddr rfl fld_57_0) ?_
          refine AJ_y 3 rfl (by kernel_rfl) (by kernel_rfl) rfl rfl (YJ_loadFactP (A := some ⟨B, 0, none⟩) (j := 0) rfl rfl tyi_26 (by repeat first | exact .head _ | apply List.Mem.tail) rfl) ?_
          refine AJ_y 4 rfl (by kernel_rfl) (by kernel_rfl) rfl rfl (YJ_move rfl) ?_
          refine AJ_y 5 rfl (by kernel_rfl) (by kernel_rfl) rfl rfl (YJ_ixFact rfl rfl elt_26 (by repeat first | exact .head _ | apply List.Mem.tail) (by decide) (by omega) (by omega) (by omega)) ?_
          refine AJ_y 6 rfl (by kernel_rfl) (by kernel_rfl) rfl rfl (YJ_loadFactN (vs := [_, _]) (xs := ptCells pts) rfl tyi_23 (by repeat first | exact .head _ | apply List.Mem.tail) (ptCells_get (i := (t.v ((k + 1) % 3)).toNat) (by omega)) rfl) ?_
          first | refine AJ_y 7 rfl (by kernel_rfl) (by kernel_rfl) rfl rfl (YJ_loadN (vs := [_, _]) rfl tyi_23 (by repeat first | exact .head _ | apply List.Mem.tail) rfl rfl) ?_ | refine AJ_y 7 rfl (by kernel_rfl) (by kernel_rfl) rfl rfl (YJ_loadFactN (vs := [_, _]) rfl tyi_23 (by repeat first | exact .head _ | apply List.Mem.tail) rfl rfl) ?_
          refine AJ_y 8 rfl (by kernel_rfl) (by kernel_rfl) rfl rfl (YJ_eqs rfl rfl (fun _ => eqs_eql_23 ..)) ?_
          refine AJ_done (by kernel_rfl) ?_
          refine QJ_thenR (by repeat with_reducible first | exact no_round | exact no_begin | apply no_then | apply no_block) ?_
          refine RJ_cond rfl (fun h76 => ?_) (fun h76 => ?_)
          · try simp only [decide_eq_true_eq, decide_eq_false_iff_not, Bool.not_eq_true', Bool.not_eq_false', Bool.and_eq_true, Bool.and_eq_false_iff, beq_iff_eq, bne_iff_ne, beq_eq_false_iff_ne, bne_eq_false_iff_eq, ne_eq, decide_eq_decide] at h76
            have q1 : ptAt pts (t.v ((k + 1) % 3)) = (p1, p2) := Prod.ext h76.1 h76.2
            refine RJ_reg (by kernel_rfl) ?_
            refine LJ_y rfl rfl (YJ_move rfl) ?_
            refine LJ_store (cs' := #[_]) (μ' := [_, _, _, _, _, _, _, _]) 0 rfl rfl rfl rfl tyi_3 rfl (Nat.le_of_ble_eq_true rfl) rfl rfl rfl ?_
            refine LJ_nil ?_
            refine QJ_thenR (by repeat with_reducible first | exact no_round | exact no_begin | apply no_then | apply no_block) ?_
            refine RJ_seq ?_
            refine RJ_regD mix (by kernel_rfl) (fun _ _ _ _ _ h => h) _ _ (fun _ h => h) (fun _ h => h) (by kernel_rfl) ?_
            first | refine AJ_y 0 rfl (by kernel_rfl) (by kernel_rfl) rfl rfl (YJ_loadL rfl tyi_28 (by repeat first | exact .head _ | apply List.Mem.tail) rfl) ?_ | refine AJ_y 0 rfl (by kernel_rfl) (by kernel_rfl) rfl rfl (YJ_loadFact rfl tyi_28 (by repeat first | exact .head _ | apply List.Mem.tail) rfl) ?_
            refine AJ_y 1 rfl (by kernel_rfl) (by kernel_rfl) rfl rfl (YJ_nilCheck rfl) ?_
            first | refine AJ_y 2 rfl (by kernel_rfl) (by kernel_rfl) rfl rfl (YJ_fieldOwn rfl fld_57_0 rfl) ?_ | refine AJ_y 2 rfl (by kernel_rfl) (by kernel_rfl) rfl rfl (YJ_fieldAddr rfl fld_57_0) ?_
            refine AJ_y 3 rfl (by kernel_rfl) (by kernel_rfl) rfl rfl (YJ_loadFactP (A := some ⟨B, 0, none⟩) (j := 0) rfl rfl tyi_26 (by repeat first | exact .head _ | apply List.Mem.tail) rfl) ?_
            refine AJ_y 4 rfl (by kernel_rfl) (by kernel_rfl) rfl rfl (YJ_move rfl) ?_
            refine AJ_y 5 rfl (by kernel_rfl) (by kernel_rfl) rfl rfl (YJ_ixFact rfl rfl elt_26 (by repeat first | exact .head _ | apply List.Mem.tail) (by decide) (by omega) (by omega) (by omega)) ?_
            refine AJ_y 6 rfl (by kernel_rfl) (by kernel_rfl) rfl rfl (YJ_loadFactN (vs := [_, _]) (xs := ptCells pts) rfl tyi_23 (by repeat first | exact .head _ | apply List.Mem.tail) (ptCells_get (i := (t.v ((k + 1) % 3)).toNat) (by omega)) rfl) ?_
            first | refine AJ_y 7 rfl (by kernel_rfl) (by kernel_rfl) rfl rfl (YJ_loadL rfl tyi_28 (by repeat first | exact .head _ | apply List.Mem.tail) rfl) ?_ | refine AJ_y 7 rfl (by kernel_rfl) (by kernel_rfl) rfl rfl (YJ_loadFact rfl tyi_28 (by repeat first | exact .head _ | apply List.Mem.tail) rfl) ?_
            refine AJ_y 8 rfl (by kernel_rfl) (by kernel_rfl) rfl rfl (YJ_nilCheck rfl) ?_
            first | refine AJ_y 9 rfl (by kernel_rfl) (by kernel_rfl) rfl rfl (YJ_fieldOwn rfl fld_57_0 rfl) ?_ | refine AJ_y 9 rfl (by kernel_rfl) (by kernel_rfl) rfl rfl (YJ_fieldAddr rfl fld_57_0) ?_
            refine AJ_y 10 rfl (by kernel_rfl) (by kernel_rfl) rfl rfl (YJ_loadFactP (A := some ⟨B, 0, none⟩) (j := 0) rfl rfl tyi_26 (by repeat first | exact .head _ | apply List.Mem.tail) rfl) ?_
            refine AJ_y 11 rfl (by kernel_rfl) (by kernel_rfl) rfl rfl (YJ_move rfl) ?_
            refine AJ_y 12 rfl (by kernel_rfl) (by kernel_rfl) rfl rfl (YJ_ixFact rfl rfl elt_26 (by repeat first | exact .head _ | apply List.Mem.tail) (by decide) (by omega) (by omega) (by omega)) ?_
            refine AJ_y 13 rfl (by kernel_rfl) (by kernel_rfl) rfl rfl (YJ_loadFactN (vs := [_, _]) (xs := ptCells pts) rfl tyi_23 (by repeat first | exact .head _ | apply List.Mem.tail) (ptCells_get (i := (t.v ((k + 2) % 3)).toNat) (by omega)) rfl) ?_
            first | refine AJ_y 14 rfl (by kernel_rfl) (by kernel_rfl) rfl rfl (YJ_loadN (vs := [_, _]) rfl tyi_23 (by repeat first | exact .head _ | apply List.Mem.tail) rfl rfl) ?_ | refine AJ_y 14 rfl (by kernel_rfl) (by kernel_rfl) rfl rfl (YJ_loadFactN (vs := [_, _]) rfl tyi_23 (by repeat first | exact .head _ | apply List.Mem.tail) rfl rfl) ?_
            refine AJ_call0 15 rfl (by kernel_rfl) rfl rfl rfl rfl rfl (orient_c hpa hpb hp) (AllIn.sub (by first | exact trivial | exact And.intro (by repeat first | exact .head _ | apply List.Mem.tail) trivial | exact And.intro (by repeat first | exact .head _ | apply List.Mem.tail) (And.intro (by repeat first | exact .head _ | apply List.Mem.tail) trivial))) ?_
            refine AJ_done (by kernel_rfl) ?_
            refine QJ_thenR (by repeat with_reducible first | exact no_round | exact no_begin | apply no_then | apply no_block) ?_
            refine RJ_block ?_
            refine RJ_seq ?_
            refine RJ_reg (by kernel_rfl) ?_
            refine LJ_y rfl rfl (YJ_bin rfl rfl rfl) ?_
            refine LJ_y rfl rfl (YJ_assign rfl) ?_
            refine LJ_nil ?_
            refine QJ_thenR (by repeat with_reducible first | exact no_round | exact no_begin | apply no_then | apply no_block) ?_
            refine RJ_cond rfl (fun h94 => ?_) (fun h94 => ?_)
            · try simp only [decide_eq_true_eq, decide_eq_false_iff_not, Bool.not_eq_true', Bool.not_eq_false', Bool.and_eq_true, Bool.and_eq_false_iff, beq_iff_eq, bne_iff_ne, beq_eq_false_iff_ne, bne_eq_false_iff_eq, ne_eq, decide_eq_decide] at h94
              have o0 := sgn_one.1 h94
              have o1 : ¬ bey pts t k (p1, p2) := fun q => Int.lt_asymm o0 q
              have o2 : ¬ edge pts t k (p1, p2) := fun q => Int.ne_of_gt o0 q
              refine RJ_reg (by kernel_rfl) ?_
              refine LJ_y rfl rfl (YJ_move rfl) ?_
              first | refine LJ_y rfl rfl (YJ_bin rfl rfl (iop_add (by omega))) ?_ | refine LJ_y rfl rfl (YJ_bin rfl rfl rfl) ?_
              refine LJ_y rfl rfl (YJ_assign rfl) ?_
              refine LJ_nil ?_
              refine QJ_in_normal ?_
              refine QJ_in_normal ?_
              refine QJ_thenR (by repeat with_reducible first | exact no_round | exact no_begin | apply no_then | apply no_block) ?_
              refine RJ_reg (by kernel_rfl) ?_
              first | refine LJ_y rfl rfl (YJ_bin rfl rfl (iop_add (by omega))) ?_ | refine LJ_y rfl rfl (YJ_bin rfl rfl rfl) ?_
              refine LJ_y rfl rfl (YJ_move rfl) ?_
              refine LJ_nil ?_
              refine QJ_roundF (F := fun (i : Nat × Int × Int × Int × Int × Int) => ⟨[(3, .pointer (some ⟨b1, 0, none⟩)), (4, .pointer (some ⟨b2, 0, none⟩)), (9, .pointer (some ⟨b5, 0, none⟩)), (10, .pointer (some ⟨b6, 0, none⟩)), (11, .pointer (some ⟨b7, 0, none⟩)), (14, .pointer (some ⟨b8, 0, none⟩)), (15, .int .i64 i.2.1), (16, .int .i64 i.2.2.1), (53, .int .i64 (i.1 : Nat))], [cellsR b6 #[.int .i64 i.2.2.2.1] 3, cellsR b7 #[.int .i64 i.2.2.2.2.1, .int .i64 i.2.2.2.2.2] 46], []⟩) (I := fun (i : Nat × Int × Int × Int × Int × Int) => i.1 ≤ 3 ∧ i.2.1 + i.2.2.1 = cnt pts t (p1, p2) i.1 ∧ (0 ≤ i.2.1 ∧ i.2.1 ≤ i.1) ∧ (0 ≤ i.2.2.1 ∧ i.2.2.1 ≤ i.1) ∧ (i.2.2.2.1, i.2.2.2.2.1, i.2.2.2.2.2) = ([0, 1, 2].take i.1).foldl (rStep pts (p1, p2) t) iR.2) (m := fun (i : Nat × Int × Int × Int × Int × Int) => 3 - i.1) (i := (k, n, z, at_, e1, e2)) ((k + 1, n + 1, z, t.v ((k + 1) % 3), e1, e2)) (μd := []) ⟨by omega, by dsimp only; rw [cnt_step hk3, ← hc, if_neg o1]; omega, (by dsimp only; omega), (by dsimp only; omega), by dsimp only; rw [r_three hk3, ← hs]; unfold rStep; exact Prod.ext (if_pos q1).symm (if_neg (fun q => o2 q.1)).symm⟩ (by dsimp only; omega) (And.intro rfl (And.intro rfl (And.intro rfl (And.intro rfl (And.intro rfl (And.intro rfl (And.intro rfl (And.intro rfl (And.intro rfl (trivial)))))))))) (permI [] rfl) (fun _ h => nomatch h) (fun _ h => h)
            · try simp only [decide_eq_true_eq, decide_eq_false_iff_not, Bool.not_eq_true', Bool.not_eq_false', Bool.and_eq_true, Bool.and_eq_false_iff, beq_iff_eq, bne_iff_ne, beq_eq_false_iff_ne, bne_eq_false_iff_eq, ne_eq, decide_eq_decide] at h94
              refine RJ_seq ?_
              refine RJ_reg (by kernel_rfl) ?_
              refine LJ_y rfl rfl (YJ_bin rfl rfl rfl) ?_
              refine LJ_y rfl rfl (YJ_assign rfl) ?_
              refine LJ_nil ?_
              refine QJ_thenR (by repeat with_reducible first | exact no_round | exact no_begin | apply no_then | apply no_block) ?_
              refine RJ_cond rfl (fun h98 => ?_) (fun h98 => ?_)
              · try simp only [decide_eq_true_eq, decide_eq_false_iff_not, Bool.not_eq_true', Bool.not_eq_false', Bool.and_eq_true, Bool.and_eq_false_iff, beq_iff_eq, bne_iff_ne, beq_eq_false_iff_ne, bne_eq_false_iff_eq, ne_eq, decide_eq_decide] at h98
                have o2 : edge pts t k (p1, p2) := sgn_zero.1 h98
                have o1 : ¬ bey pts t k (p1, p2) := fun q => Int.ne_of_lt q o2
                refine RJ_seq ?_
                refine RJ_seq ?_
                refine RJ_regD mix (by kernel_rfl) (fun _ _ _ _ _ h => h) _ _ (fun _ h => h) (fun _ h => h) (by kernel_rfl) ?_
                first | refine AJ_y 0 rfl (by kernel_rfl) (by kernel_rfl) rfl rfl (YJ_loadN (vs := [_, _]) rfl tyi_23 (by repeat first | exact .head _ | apply List.Mem.tail) rfl rfl) ?_ | refine AJ_y 0 rfl (by kernel_rfl) (by kernel_rfl) rfl rfl (YJ_loadFactN (vs := [_, _]) rfl tyi_23 (by repeat first | exact .head _ | apply List.Mem.tail) rfl rfl) ?_
                first | refine AJ_y 1 rfl (by kernel_rfl) (by kernel_rfl) rfl rfl (YJ_loadL rfl tyi_28 (by repeat first | exact .head _ | apply List.Mem.tail) rfl) ?_ | refine AJ_y 1 rfl (by kernel_rfl) (by kernel_rfl) rfl rfl (YJ_loadFact rfl tyi_28 (by repeat first | exact .head _ | apply List.Mem.tail) rfl) ?_
                refine AJ_y 2 rfl (by kernel_rfl) (by kernel_rfl) rfl rfl (YJ_nilCheck rfl) ?_
                first | refine AJ_y 3 rfl (by kernel_rfl) (by kernel_rfl) rfl rfl (YJ_fieldOwn rfl fld_57_0 rfl) ?_ | refine AJ_y 3 rfl (by kernel_rfl) (by kernel_rfl) rfl rfl (YJ_fieldAddr rfl fld_57_0) ?_
                refine AJ_y 4 rfl (by kernel_rfl) (by kernel_rfl) rfl rfl (YJ_loadFactP (A := some ⟨B, 0, none⟩) (j := 0) rfl rfl tyi_26 (by repeat first | exact .head _ | apply List.Mem.tail) rfl) ?_
                refine AJ_y 5 rfl (by kernel_rfl) (by kernel_rfl) rfl rfl (YJ_move rfl) ?_
                refine AJ_y 6 rfl (by kernel_rfl) (by kernel_rfl) rfl rfl (YJ_ixFact rfl rfl elt_26 (by repeat first | exact .head _ | apply List.Mem.tail) (by decide) (by omega) (by omega) (by omega)) ?_
                refine AJ_y 7 rfl (by kernel_rfl) (by kernel_rfl) rfl rfl (YJ_loadFactN (vs := [_, _]) (xs := ptCells pts) rfl tyi_23 (by repeat first | exact .head _ | apply List.Mem.tail) (ptCells_get (i := (t.v ((k + 1) % 3)).toNat) (by omega)) rfl) ?_
                first | refine AJ_y 8 rfl (by kernel_rfl) (by kernel_rfl) rfl rfl (YJ_loadL rfl tyi_28 (by repeat first | exact .head _ | apply List.Mem.tail) rfl) ?_ | refine AJ_y 8 rfl (by kernel_rfl) (by kernel_rfl) rfl rfl (YJ_loadFact rfl tyi_28 (by repeat first | exact .head _ | apply List.Mem.tail) rfl) ?_
                refine AJ_y 9 rfl (by kernel_rfl) (by kernel_rfl) rfl rfl (YJ_nilCheck rfl) ?_
                first | refine AJ_y 10 rfl (by kernel_rfl) (by kernel_rfl) rfl rfl (YJ_fieldOwn rfl fld_57_0 rfl) ?_ | refine AJ_y 10 rfl (by kernel_rfl) (by kernel_rfl) rfl rfl (YJ_fieldAddr rfl fld_57_0) ?_
                refine AJ_y 11 rfl (by kernel_rfl) (by kernel_rfl) rfl rfl (YJ_loadFactP (A := some ⟨B, 0, none⟩) (j := 0) rfl rfl tyi_26 (by repeat first | exact .head _ | apply List.Mem.tail) rfl) ?_
                refine AJ_y 12 rfl (by kernel_rfl) (by kernel_rfl) rfl rfl (YJ_move rfl) ?_
                refine AJ_y 13 rfl (by kernel_rfl) (by kernel_rfl) rfl rfl (YJ_ixFact rfl rfl elt_26 (by repeat first | exact .head _ | apply List.Mem.tail) (by decide) (by omega) (by omega) (by omega)) ?_
                refine AJ_y 14 rfl (by kernel_rfl) (by kernel_rfl) rfl rfl (YJ_loadFactN (vs := [_, _]) (xs := ptCells pts) rfl tyi_23 (by repeat first | exact .head _ | apply List.Mem.tail) (ptCells_get (i := (t.v ((k + 2) % 3)).toNat) (by omega)) rfl) ?_
                refine AJ_call0 15 rfl (by kernel_rfl) rfl rfl rfl rfl rfl (between_c hp hpa hpb) (AllIn.sub (by first | exact trivial | exact And.intro (by repeat first | exact .head _ | apply List.Mem.tail) trivial | exact And.intro (by repeat first | exact .head _ | apply List.Mem.tail) (And.intro (by repeat first | exact .head _ | apply List.Mem.tail) trivial))) ?_
                refine AJ_done (by kernel_rfl) ?_
                refine QJ_thenR (by repeat with_reducible first | exact no_round | exact no_begin | apply no_then | apply no_block) ?_
                refine RJ_cond rfl (fun h115 => ?_) (fun h115 => ?_)
                · try simp only [decide_eq_true_eq, decide_eq_false_iff_not, Bool.not_eq_true', Bool.not_eq_false', Bool.and_eq_true, Bool.and_eq_false_iff, beq_iff_eq, bne_iff_ne, beq_eq_false_iff_ne, bne_eq_false_iff_eq, ne_eq, decide_eq_decide] at h115
                  refine RJ_reg (by kernel_rfl) ?_
                  refine LJ_y rfl rfl (YJ_move rfl) ?_
                  refine LJ_y rfl rfl (YJ_move rfl) ?_
                  refine LJ_y rfl rfl (YJ_min2 rfl rfl) ?_
                  refine LJ_y rfl rfl (YJ_move rfl) ?_
                  refine LJ_y rfl rfl (YJ_move rfl) ?_
                  refine LJ_y rfl rfl (YJ_max2 rfl rfl) ?_
                  refine LJ_y rfl rfl (YJ_build1 (cs := [_, _]) lay_46 rfl rfl rfl) ?_
                  refine LJ_store (cs' := #[_, _]) (μ' := [_, _, _, _, _, _, _, _]) 1 rfl rfl rfl rfl tyi_46 rfl (Nat.le_of_ble_eq_true rfl) rfl rfl rfl ?_
                  refine LJ_nil ?_
                  refine QJ_thenR (by repeat with_reducible first | exact no_round | exact no_begin | apply no_then | apply no_block) ?_
                  refine RJ_reg (by kernel_rfl) ?_
                  refine LJ_y rfl rfl (YJ_move rfl) ?_
                  first | refine LJ_y rfl rfl (YJ_bin rfl rfl (iop_add (by omega))) ?_ | refine LJ_y rfl rfl (YJ_bin rfl rfl rfl) ?_
                  refine LJ_y rfl rfl (YJ_assign rfl) ?_
                  refine LJ_nil ?_
                  refine QJ_in_normal ?_
                  refine QJ_in_normal ?_
                  refine QJ_thenR (by repeat with_reducible first | exact no_round | exact no_begin | apply no_then | apply no_block) ?_
                  refine RJ_reg (by kernel_rfl) ?_
                  first | refine LJ_y rfl rfl (YJ_bin rfl rfl (iop_add (by omega))) ?_ | refine LJ_y rfl rfl (YJ_bin rfl rfl rfl) ?_
                  refine LJ_y rfl rfl (YJ_move rfl) ?_
                  refine LJ_nil ?_
                  refine QJ_roundF (F := fun (i : Nat × Int × Int × Int × Int × Int) => ⟨[(3, .pointer (some ⟨b1, 0, none⟩)), (4, .pointer (some ⟨b2, 0, none⟩)), (9, .pointer (some ⟨b5, 0, none⟩)), (10, .pointer (some ⟨b6, 0, none⟩)), (11, .pointer (some ⟨b7, 0, none⟩)), (14, .pointer (some ⟨b8, 0, none⟩)), (15, .int .i64 i.2.1), (16, .int .i64 i.2.2.1), (53, .int .i64 (i.1 : Nat))], [cellsR b6 #[.int .i64 i.2.2.2.1] 3, cellsR b7 #[.int .i64 i.2.2.2.2.1, .int .i64 i.2.2.2.2.2] 46], []⟩) (I := fun (i : Nat × Int × Int × Int × Int × Int) => i.1 ≤ 3 ∧ i.2.1 + i.2.2.1 = cnt pts t (p1, p2) i.1 ∧ (0 ≤ i.2.1 ∧ i.2.1 ≤ i.1) ∧ (0 ≤ i.2.2.1 ∧ i.2.2.1 ≤ i.1) ∧ (i.2.2.2.1, i.2.2.2.2.1, i.2.2.2.2.2) = ([0, 1, 2].take i.1).foldl (rStep pts (p1, p2) t) iR.2) (m := fun (i : Nat × Int × Int × Int × Int × Int) => 3 - i.1) (i := (k, n, z, at_, e1, e2)) ((k + 1, n, z + 1, t.v ((k + 1) % 3), min (t.v ((k + 1) % 3)) (t.v ((k + 2) % 3)), max (t.v ((k + 1) % 3)) (t.v ((k + 2) % 3)))) (μd := []) ⟨by omega, by dsimp only; rw [cnt_step hk3, ← hc, if_neg o1]; omega, (by dsimp only; omega), (by dsimp only; omega), by dsimp only; rw [r_three hk3, ← hs]; unfold rStep; exact Prod.ext (if_pos q1).symm (if_pos ⟨o2, h115⟩).symm⟩ (by dsimp only; omega) (And.intro rfl (And.intro rfl (And.intro rfl (And.intro rfl (And.intro rfl (And.intro rfl (And.intro rfl (And.intro rfl (And.intro rfl (trivial)))))))))) (permI [] rfl) (fun _ h => nomatch h) (fun _ h => h)
                · try simp only [decide_eq_true_eq, decide_eq_false_iff_not, Bool.not_eq_true', Bool.not_eq_false', Bool.and_eq_true, Bool.and_eq_false_iff, beq_iff_eq, bne_iff_ne, beq_eq_false_iff_ne, bne_eq_false_iff_eq, ne_eq, decide_eq_decide] at h115
                  refine RJ_skip ?_
                  refine QJ_thenR (by repeat with_reducible first | exact no_round | exact no_begin | apply no_then | apply no_block) ?_
                  refine RJ_reg (by kernel_rfl) ?_
                  refine LJ_y rfl rfl (YJ_move rfl) ?_
                  first | refine LJ_y rfl rfl (YJ_bin rfl rfl (iop_add (by omega))) ?_ | refine LJ_y rfl rfl (YJ_bin rfl rfl rfl) ?_
                  refine LJ_y rfl rfl (YJ_assign rfl) ?_
                  refine LJ_nil ?_
                  refine QJ_in_normal ?_
                  refine QJ_in_normal ?_
                  refine QJ_thenR (by repeat with_reducible first | exact no_round | exact no_begin | apply no_then | apply no_block) ?_
                  refine RJ_reg (by kernel_rfl) ?_
                  first | refine LJ_y rfl rfl (YJ_bin rfl rfl (iop_add (by omega))) ?_ | refine LJ_y rfl rfl (YJ_bin rfl rfl rfl) ?_
                  refine LJ_y rfl rfl (YJ_move rfl) ?_
                  refine LJ_nil ?_
                  refine QJ_roundF (F := fun (i : Nat × Int × Int × Int × Int × Int) => ⟨[(3, .pointer (some ⟨b1, 0, none⟩)), (4, .pointer (some ⟨b2, 0, none⟩)), (9, .pointer (some ⟨b5, 0, none⟩)), (10, .pointer (some ⟨b6, 0, none⟩)), (11, .pointer (some ⟨b7, 0, none⟩)), (14, .pointer (some ⟨b8, 0, none⟩)), (15, .int .i64 i.2.1), (16, .int .i64 i.2.2.1), (53, .int .i64 (i.1 : Nat))], [cellsR b6 #[.int .i64 i.2.2.2.1] 3, cellsR b7 #[.int .i64 i.2.2.2.2.1, .int .i64 i.2.2.2.2.2] 46], []⟩) (I := fun (i : Nat × Int × Int × Int × Int × Int) => i.1 ≤ 3 ∧ i.2.1 + i.2.2.1 = cnt pts t (p1, p2) i.1 ∧ (0 ≤ i.2.1 ∧ i.2.1 ≤ i.1) ∧ (0 ≤ i.2.2.1 ∧ i.2.2.1 ≤ i.1) ∧ (i.2.2.2.1, i.2.2.2.2.1, i.2.2.2.2.2) = ([0, 1, 2].take i.1).foldl (rStep pts (p1, p2) t) iR.2) (m := fun (i : Nat × Int × Int × Int × Int × Int) => 3 - i.1) (i := (k, n, z, at_, e1, e2)) ((k + 1, n, z + 1, t.v ((k + 1) % 3), e1, e2)) (μd := []) ⟨by omega, by dsimp only; rw [cnt_step hk3, ← hc, if_neg o1]; omega, (by dsimp only; omega), (by dsimp only; omega), by dsimp only; rw [r_three hk3, ← hs]; unfold rStep; exact Prod.ext (if_pos q1).symm (if_neg (fun q => h115 q.2)).symm⟩ (by dsimp only; omega) (And.intro rfl (And.intro rfl (And.intro rfl (And.intro rfl (And.intro rfl (And.intro rfl (And.intro rfl (And.intro rfl (And.intro rfl (trivial)))))))))) (permI [] rfl) (fun _ h => nomatch h) (fun _ h => h)
              · try simp only [decide_eq_true_eq, decide_eq_false_iff_not, Bool.not_eq_true', Bool.not_eq_false', Bool.and_eq_true, Bool.and_eq_false_iff, beq_iff_eq, bne_iff_ne, beq_eq_false_iff_ne, bne_eq_false_iff_eq, ne_eq, decide_eq_decide] at h98
                have o2 : ¬ edge pts t k (p1, p2) := fun q => h98 (sgn_zero.2 q)
                have o1 : bey pts t k (p1, p2) := sgn_else h94 h98
                refine RJ_skip ?_
                refine QJ_in_normal ?_
                refine QJ_in_normal ?_
                refine QJ_thenR (by repeat with_reducible first | exact no_round | exact no_begin | apply no_then | apply no_block) ?_
                refine RJ_reg (by kernel_rfl) ?_
                first | refine LJ_y rfl rfl (YJ_bin rfl rfl (iop_add (by omega))) ?_ | refine LJ_y rfl rfl (YJ_bin rfl rfl rfl) ?_
                refine LJ_y rfl rfl (YJ_move rfl) ?_
                refine LJ_nil ?_
                refine QJ_roundF (F := fun (i : Nat × Int × Int × Int × Int × Int) => ⟨[(3, .pointer (some ⟨b1, 0, none⟩)), (4, .pointer (some ⟨b2, 0, none⟩)), (9, .pointer (some ⟨b5, 0, none⟩)), (10, .pointer (some ⟨b6, 0, none⟩)), (11, .pointer (some ⟨b7, 0, none⟩)), (14, .pointer (some ⟨b8, 0, none⟩)), (15, .int .i64 i.2.1), (16, .int .i64 i.2.2.1), (53, .int .i64 (i.1 : Nat))], [cellsR b6 #[.int .i64 i.2.2.2.1] 3, cellsR b7 #[.int .i64 i.2.2.2.2.1, .int .i64 i.2.2.2.2.2] 46], []⟩) (I := fun (i : Nat × Int × Int × Int × Int × Int) => i.1 ≤ 3 ∧ i.2.1 + i.2.2.1 = cnt pts t (p1, p2) i.1 ∧ (0 ≤ i.2.1 ∧ i.2.1 ≤ i.1) ∧ (0 ≤ i.2.2.1 ∧ i.2.2.1 ≤ i.1) ∧ (i.2.2.2.1, i.2.2.2.2.1, i.2.2.2.2.2) = ([0, 1, 2].take i.1).foldl (rStep pts (p1, p2) t) iR.2) (m := fun (i : Nat × Int × Int × Int × Int × Int) => 3 - i.1) (i := (k, n, z, at_, e1, e2)) ((k + 1, n, z, t.v ((k + 1) % 3), e1, e2)) (μd := []) ⟨by omega, by dsimp only; rw [cnt_step hk3, ← hc, if_pos o1]; omega, (by dsimp only; omega), (by dsimp only; omega), by dsimp only; rw [r_three hk3, ← hs]; unfold rStep; exact Prod.ext (if_pos q1).symm (if_neg (fun q => o2 q.1)).symm⟩ (by dsimp only; omega) (And.intro rfl (And.intro rfl (And.intro rfl (And.intro rfl (And.intro rfl (And.intro rfl (And.intro rfl (And.intro rfl (And.intro rfl (trivial)))))))))) (permI [] rfl) (fun _ h => nomatch h) (fun _ h => h)
          · try simp only [decide_eq_true_eq, decide_eq_false_iff_not, Bool.not_eq_true', Bool.not_eq_false', Bool.and_eq_true, Bool.and_eq_false_iff, beq_iff_eq, bne_iff_ne, beq_eq_false_iff_ne, bne_eq_false_iff_eq, ne_eq, decide_eq_decide] at h76
            have q1 : ¬ ptAt pts (t.v ((k + 1) % 3)) = (p1, p2) := fun e => by
              have e1 := congrArg Prod.fst e
              have e2 := congrArg Prod.snd e
              rcases h76 with q | q
              · exact q e1
              · exact q e2
            refine RJ_skip ?_
            refine QJ_thenR (by repeat with_reducible first | exact no_round | exact no_begin | apply no_then | apply no_block) ?_
            refine RJ_seq ?_
            refine RJ_regD mix (by kernel_rfl) (fun _ _ _ _ _ h => h) _ _ (fun _ h => h) (fun _ h => h) (by kernel_rfl) ?_
            first | refine AJ_y 0 rfl (by kernel_rfl) (by kernel_rfl) rfl rfl (YJ_loadL rfl tyi_28 (by repeat first | exact .head _ | apply List.Mem.tail) rfl) ?_ | refine AJ_y 0 rfl (by kernel_rfl) (by kernel_rfl) rfl rfl (YJ_loadFact rfl tyi_28 (by repeat first | exact .head _ | apply List.Mem.tail) rfl) ?_
            refine AJ_y 1 rfl (by kernel_rfl) (by kernel_rfl) rfl rfl (YJ_nilCheck rfl) ?_
            first | refine AJ_y 2 rfl (by kernel_rfl) (by kernel_rfl) rfl rfl (YJ_fieldOwn rfl fld_57_0 rfl) ?_ | refine AJ_y 2 rfl (by kernel_rfl) (by kernel_rfl) rfl rfl (YJ_fieldAddr rfl fld_57_0) ?_
            refine AJ_y 3 rfl (by kernel_rfl) (by kernel_rfl) rfl rfl (YJ_loadFactP (A := some ⟨B, 0, none⟩) (j := 0) rfl rfl tyi_26 (by repeat first | exact .head _ | apply List.Mem.tail) rfl) ?_
            refine AJ_y 4 rfl (by kernel_rfl) (by kernel_rfl) rfl rfl (YJ_move rfl) ?_
            refine AJ_y 5 rfl (by kernel_rfl) (by kernel_rfl) rfl rfl (YJ_ixFact rfl rfl elt_26 (by repeat first | exact .head _ | apply List.Mem.tail) (by decide) (by omega) (by omega) (by omega)) ?_
            refine AJ_y 6 rfl (by kernel_rfl) (by kernel_rfl) rfl rfl (YJ_loadFactN (vs := [_, _]) (xs := ptCells pts) rfl tyi_23 (by repeat first | exact .head _ | apply List.Mem.tail) (ptCells_get (i := (t.v ((k + 1) % 3)).toNat) (by omega)) rfl) ?_
            first | refine AJ_y 7 rfl (by kernel_rfl) (by kernel_rfl) rfl rfl (YJ_loadL rfl tyi_28 (by repeat first | exact .head _ | apply List.Mem.tail) rfl) ?_ | refine AJ_y 7 rfl (by kernel_rfl) (by kernel_rfl) rfl rfl (YJ_loadFact rfl tyi_28 (by repeat first | exact .head _ | apply List.Mem.tail) rfl) ?_
            refine AJ_y 8 rfl (by kernel_rfl) (by kernel_rfl) rfl rfl (YJ_nilCheck rfl) ?_
            first | refine AJ_y 9 rfl (by kernel_rfl) (by kernel_rfl) rfl rfl (YJ_fieldOwn rfl fld_57_0 rfl) ?_ | refine AJ_y 9 rfl (by kernel_rfl) (by kernel_rfl) rfl rfl (YJ_fieldAddr rfl fld_57_0) ?_
            refine AJ_y 10 rfl (by kernel_rfl) (by kernel_rfl) rfl rfl (YJ_loadFactP (A := some ⟨B, 0, none⟩) (j := 0) rfl rfl tyi_26 (by repeat first | exact .head _ | apply List.Mem.tail) rfl) ?_
            refine AJ_y 11 rfl (by kernel_rfl) (by kernel_rfl) rfl rfl (YJ_move rfl) ?_
            refine AJ_y 12 rfl (by kernel_rfl) (by kernel_rfl) rfl rfl (YJ_ixFact rfl rfl elt_26 (by repeat first | exact .head _ | apply List.Mem.tail) (by decide) (by omega) (by omega) (by omega)) ?_
            refine AJ_y 13 rfl (by kernel_rfl) (by kernel_rfl) rfl rfl (YJ_loadFactN (vs := [_, _]) (xs := ptCells pts) rfl tyi_23 (by repeat first | exact .head _ | apply List.Mem.tail) (ptCells_get (i := (t.v ((k + 2) % 3)).toNat) (by omega)) rfl) ?_
            first | refine AJ_y 14 rfl (by kernel_rfl) (by kernel_rfl) rfl rfl (YJ_loadN (vs := [_, _]) rfl tyi_23 (by repeat first | exact .head _ | apply List.Mem.tail) rfl rfl) ?_ | refine AJ_y 14 rfl (by kernel_rfl) (by kernel_rfl) rfl rfl (YJ_loadFactN (vs := [_, _]) rfl tyi_23 (by repeat first | exact .head _ | apply List.Mem.tail) rfl rfl) ?_
            refine AJ_call0 15 rfl (by kernel_rfl) rfl rfl rfl rfl rfl (orient_c hpa hpb hp) (AllIn.sub (by first | exact trivial | exact And.intro (by repeat first | exact .head _ | apply List.Mem.tail) trivial | exact And.intro (by repeat first | exact .head _ | apply List.Mem.tail) (And.intro (by repeat first | exact .head _ | apply List.Mem.tail) trivial))) ?_
            refine AJ_done (by kernel_rfl) ?_
            refine QJ_thenR (by repeat with_reducible first | exact no_round | exact no_begin | apply no_then | apply no_block) ?_
            refine RJ_block ?_
            refine RJ_seq ?_
            refine RJ_reg (by kernel_rfl) ?_
            refine LJ_y rfl rfl (YJ_bin rfl rfl rfl) ?_
            refine LJ_y rfl rfl (YJ_assign rfl) ?_
            refine LJ_nil ?_
            refine QJ_thenR (by repeat with_reducible first | exact no_round | exact no_begin | apply no_then | apply no_block) ?_
            refine RJ_cond rfl (fun h94 => ?_) (fun h94 => ?_)
            · try simp only [decide_eq_true_eq, decide_eq_false_iff_not, Bool.not_eq_true', Bool.not_eq_false', Bool.and_eq_true, Bool.and_eq_false_iff, beq_iff_eq, bne_iff_ne, beq_eq_false_iff_ne, bne_eq_false_iff_eq, ne_eq, decide_eq_decide] at h94
              have o0 := sgn_one.1 h94
              have o1 : ¬ bey pts t k (p1, p2) := fun q => Int.lt_asymm o0 q
              have o2 : ¬ edge pts t k (p1, p2) := fun q => Int.ne_of_gt o0 q
              refine RJ_reg (by kernel_rfl) ?_
              refine LJ_y rfl rfl (YJ_move rfl) ?_
              first | refine LJ_y rfl rfl (YJ_bin rfl rfl (iop_add (by omega))) ?_ | refine LJ_y rfl rfl (YJ_bin rfl rfl rfl) ?_
              refine LJ_y rfl rfl (YJ_assign rfl) ?_
              refine LJ_nil ?_
              refine QJ_in_normal ?_
              refine QJ_in_normal ?_
              refine QJ_thenR (by repeat with_reducible first | exact no_round | exact no_begin | apply no_then | apply no_block) ?_
              refine RJ_reg (by kernel_rfl) ?_
              first | refine LJ_y rfl rfl (YJ_bin rfl rfl (iop_add (by omega))) ?_ | refine LJ_y rfl rfl (YJ_bin rfl rfl rfl) ?_
              refine LJ_y rfl rfl (YJ_move rfl) ?_
              refine LJ_nil ?_
              refine QJ_roundF (F := fun (i : Nat × Int × Int × Int × Int × Int) => ⟨[(3, .pointer (some ⟨b1, 0, none⟩)), (4, .pointer (some ⟨b2, 0, none⟩)), (9, .pointer (some ⟨b5, 0, none⟩)), (10, .pointer (some ⟨b6, 0, none⟩)), (11, .pointer (some ⟨b7, 0, none⟩)), (14, .pointer (some ⟨b8, 0, none⟩)), (15, .int .i64 i.2.1), (16, .int .i64 i.2.2.1), (53, .int .i64 (i.1 : Nat))], [cellsR b6 #[.int .i64 i.2.2.2.1] 3, cellsR b7 #[.int .i64 i.2.2.2.2.1, .int .i64 i.2.2.2.2.2] 46], []⟩) (I := fun (i : Nat × Int × Int × Int × Int × Int) => i.1 ≤ 3 ∧ i.2.1 + i.2.2.1 = cnt pts t (p1, p2) i.1 ∧ (0 ≤ i.2.1 ∧ i.2.1 ≤ i.1) ∧ (0 ≤ i.2.2.1 ∧ i.2.2.1 ≤ i.1) ∧ (i.2.2.2.1, i.2.2.2.2.1, i.2.2.2.2.2) = ([0, 1, 2].take i.1).foldl (rStep pts (p1, p2) t) iR.2) (m := fun (i : Nat × Int × Int × Int × Int × Int) => 3 - i.1) (i := (k, n, z, at_, e1, e2)) ((k + 1, n + 1, z, at_, e1, e2)) (μd := []) ⟨by omega, by dsimp only; rw [cnt_step hk3, ← hc, if_neg o1]; omega, (by dsimp only; omega), (by dsimp only; omega), by dsimp only; rw [r_three hk3, ← hs]; unfold rStep; exact Prod.ext (if_neg q1).symm (if_neg (fun q => o2 q.1)).symm⟩ (by dsimp only; omega) (And.intro rfl (And.intro rfl (And.intro rfl (And.intro rfl (And.intro rfl (And.intro rfl (And.intro rfl (And.intro rfl (And.intro rfl (trivial)))))))))) (permI [] rfl) (fun _ h => nomatch h) (fun _ h => h)
            · try simp only [decide_eq_true_eq, decide_eq_false_iff_not, Bool.not_eq_true', Bool.not_eq_false', Bool.and_eq_true, Bool.and_eq_false_iff, beq_iff_eq, bne_iff_ne, beq_eq_false_iff_ne, bne_eq_false_iff_eq, ne_eq, decide_eq_decide] at h94
              refine RJ_seq ?_
              refine RJ_reg (by kernel_rfl) ?_
              refine LJ_y rfl rfl (YJ_bin rfl rfl rfl) ?_
              refine LJ_y rfl rfl (YJ_assign rfl) ?_
              refine LJ_nil ?_
              refine QJ_thenR (by repeat with_reducible first | exact no_round | exact no_begin | apply no_then | apply no_block) ?_
              refine RJ_cond rfl (fun h98 => ?_) (fun h98 => ?_)
              · try simp only [decide_eq_true_eq, decide_eq_false_iff_not, Bool.not_eq_true', Bool.not_eq_false', Bool.and_eq_true, Bool.and_eq_false_iff, beq_iff_eq, bne_iff_ne, beq_eq_false_iff_ne, bne_eq_false_iff_eq, ne_eq, decide_eq_decide] at h98
                have o2 : edge pts t k (p1, p2) := sgn_zero.1 h98
                have o1 : ¬ bey pts t k (p1, p2) := fun q => Int.ne_of_lt q o2
                refine RJ_seq ?_
                refine RJ_seq ?_
                refine RJ_regD mix (by kernel_rfl) (fun _ _ _ _ _ h => h) _ _ (fun _ h => h) (fun _ h => h) (by kernel_rfl) ?_
                first | refine AJ_y 0 rfl (by kernel_rfl) (by kernel_rfl) rfl rfl (YJ_loadN (vs := [_, _]) rfl tyi_23 (by repeat first | exact .head _ | apply List.Mem.tail) rfl rfl) ?_ | refine AJ_y 0 rfl (by kernel_rfl) (by kernel_rfl) rfl rfl (YJ_loadFactN (vs := [_, _]) rfl tyi_23 (by repeat first | exact .head _ | apply List.Mem.tail) rfl rfl) ?_
                first | refine AJ_y 1 rfl (by kernel_rfl) (by kernel_rfl) rfl rfl (YJ_loadL rfl tyi_28 (by repeat first | exact .head _ | apply List.Mem.tail) rfl) ?_ | refine AJ_y 1 rfl (by kernel_rfl) (by kernel_rfl) rfl rfl (YJ_loadFact rfl tyi_28 (by repeat first | exact .head _ | apply List.Mem.tail) rfl) ?_
                refine AJ_y 2 rfl (by kernel_rfl) (by kernel_rfl) rfl rfl (YJ_nilCheck rfl) ?_
                first | refine AJ_y 3 rfl (by kernel_rfl) (by kernel_rfl) rfl rfl (YJ_fieldOwn rfl fld_57_0 rfl) ?_ | refine AJ_y 3 rfl (by kernel_rfl) (by kernel_rfl) rfl rfl (YJ_fieldAddr rfl fld_57_0) ?_
                refine AJ_y 4 rfl (by kernel_rfl) (by kernel_rfl) rfl rfl (YJ_loadFactP (A := some ⟨B, 0, none⟩) (j := 0) rfl rfl tyi_26 (by repeat first | exact .head _ | apply List.Mem.tail) rfl) ?_
                refine AJ_y 5 rfl (by kernel_rfl) (by kernel_rfl) rfl rfl (YJ_move rfl) ?_
                refine AJ_y 6 rfl (by kernel_rfl) (by kernel_rfl) rfl rfl (YJ_ixFact rfl rfl elt_26 (by repeat first | exact .head _ | apply List.Mem.tail) (by decide) (by omega) (by omega) (by omega)) ?_
                refine AJ_y 7 rfl (by kernel_rfl) (by kernel_rfl) rfl rfl (YJ_loadFactN (vs := [_, _]) (xs := ptCells pts) rfl tyi_23 (by repeat first | exact .head _ | apply List.Mem.tail) (ptCells_get (i := (t.v ((k + 1) % 3)).toNat) (by omega)) rfl) ?_
                first | refine AJ_y 8 rfl (by kernel_rfl) (by kernel_rfl) rfl rfl (YJ_loadL rfl tyi_28 (by repeat first | exact .head _ | apply List.Mem.tail) rfl) ?_ | refine AJ_y 8 rfl (by kernel_rfl) (by kernel_rfl) rfl rfl (YJ_loadFact rfl tyi_28 (by repeat first | exact .head _ | apply List.Mem.tail) rfl) ?_
                refine AJ_y 9 rfl (by kernel_rfl) (by kernel_rfl) rfl rfl (YJ_nilCheck rfl) ?_
                first | refine AJ_y 10 rfl (by kernel_rfl) (by kernel_rfl) rfl rfl (YJ_fieldOwn rfl fld_57_0 rfl) ?_ | refine AJ_y 10 rfl (by kernel_rfl) (by kernel_rfl) rfl rfl (YJ_fieldAddr rfl fld_57_0) ?_
                refine AJ_y 11 rfl (by kernel_rfl) (by kernel_rfl) rfl rfl (YJ_loadFactP (A := some ⟨B, 0, none⟩) (j := 0) rfl rfl tyi_26 (by repeat first | exact .head _ | apply List.Mem.tail) rfl) ?_
                refine AJ_y 12 rfl (by kernel_rfl) (by kernel_rfl) rfl rfl (YJ_move rfl) ?_
                refine AJ_y 13 rfl (by kernel_rfl) (by kernel_rfl) rfl rfl (YJ_ixFact rfl rfl elt_26 (by repeat first | exact .head _ | apply List.Mem.tail) (by decide) (by omega) (by omega) (by omega)) ?_
                refine AJ_y 14 rfl (by kernel_rfl) (by kernel_rfl) rfl rfl (YJ_loadFactN (vs := [_, _]) (xs := ptCells pts) rfl tyi_23 (by repeat first | exact .head _ | apply List.Mem.tail) (ptCells_get (i := (t.v ((k + 2) % 3)).toNat) (by omega)) rfl) ?_
                refine AJ_call0 15 rfl (by kernel_rfl) rfl rfl rfl rfl rfl (between_c hp hpa hpb) (AllIn.sub (by first | exact trivial | exact And.intro (by repeat first | exact .head _ | apply List.Mem.tail) trivial | exact And.intro (by repeat first | exact .head _ | apply List.Mem.tail) (And.intro (by repeat first | exact .head _ | apply List.Mem.tail) trivial))) ?_
                refine AJ_done (by kernel_rfl) ?_
                refine QJ_thenR (by repeat with_reducible first | exact no_round | exact no_begin | apply no_then | apply no_block) ?_
                refine RJ_cond rfl (fun h115 => ?_) (fun h115 => ?_)
                · try simp only [decide_eq_true_eq, decide_eq_false_iff_not, Bool.not_eq_true', Bool.not_eq_false', Bool.and_eq_true, Bool.and_eq_false_iff, beq_iff_eq, bne_iff_ne, beq_eq_false_iff_ne, bne_eq_false_iff_eq, ne_eq, decide_eq_decide] at h115
                  refine RJ_reg (by kernel_rfl) ?_
                  refine LJ_y rfl rfl (YJ_move rfl) ?_
                  refine LJ_y rfl rfl (YJ_move rfl) ?_
                  refine LJ_y rfl rfl (YJ_min2 rfl rfl) ?_
                  refine LJ_y rfl rfl (YJ_move rfl) ?_
                  refine LJ_y rfl rfl (YJ_move rfl) ?_
                  refine LJ_y rfl rfl (YJ_max2 rfl rfl) ?_
                  refine LJ_y rfl rfl (YJ_build1 (cs := [_, _]) lay_46 rfl rfl rfl) ?_
                  refine LJ_store (cs' := #[_, _]) (μ' := [_, _, _, _, _, _, _, _]) 1 rfl rfl rfl rfl tyi_46 rfl (Nat.le_of_ble_eq_true rfl) rfl rfl rfl ?_
                  refine LJ_nil ?_
                  refine QJ_thenR (by repeat with_reducible first | exact no_round | exact no_begin | apply no_then | apply no_block) ?_
                  refine RJ_reg (by kernel_rfl) ?_
                  refine LJ_y rfl rfl (YJ_move rfl) ?_
                  first | refine LJ_y rfl rfl (YJ_bin rfl rfl (iop_add (by omega))) ?_ | refine LJ_y rfl rfl (YJ_bin rfl rfl rfl) ?_
                  refine LJ_y rfl rfl (YJ_assign rfl) ?_
                  refine LJ_nil ?_
                  refine QJ_in_normal ?_
                  refine QJ_in_normal ?_
                  refine QJ_thenR (by repeat with_reducible first | exact no_round | exact no_begin | apply no_then | apply no_block) ?_
                  refine RJ_reg (by kernel_rfl) ?_
                  first | refine LJ_y rfl rfl (YJ_bin rfl rfl (iop_add (by omega))) ?_ | refine LJ_y rfl rfl (YJ_bin rfl rfl rfl) ?_
                  refine LJ_y rfl rfl (YJ_move rfl) ?_
                  refine LJ_nil ?_
                  refine QJ_roundF (F := fun (i : Nat × Int × Int × Int × Int × Int) => ⟨[(3, .pointer (some ⟨b1, 0, none⟩)), (4, .pointer (some ⟨b2, 0, none⟩)), (9, .pointer (some ⟨b5, 0, none⟩)), (10, .pointer (some ⟨b6, 0, none⟩)), (11, .pointer (some ⟨b7, 0, none⟩)), (14, .pointer (some ⟨b8, 0, none⟩)), (15, .int .i64 i.2.1), (16, .int .i64 i.2.2.1), (53, .int .i64 (i.1 : Nat))], [cellsR b6 #[.int .i64 i.2.2.2.1] 3, cellsR b7 #[.int .i64 i.2.2.2.2.1, .int .i64 i.2.2.2.2.2] 46], []⟩) (I := fun (i : Nat × Int × Int × Int × Int × Int) => i.1 ≤ 3 ∧ i.2.1 + i.2.2.1 = cnt pts t (p1, p2) i.1 ∧ (0 ≤ i.2.1 ∧ i.2.1 ≤ i.1) ∧ (0 ≤ i.2.2.1 ∧ i.2.2.1 ≤ i.1) ∧ (i.2.2.2.1, i.2.2.2.2.1, i.2.2.2.2.2) = ([0, 1, 2].take i.1).foldl (rStep pts (p1, p2) t) iR.2) (m := fun (i : Nat × Int × Int × Int × Int × Int) => 3 - i.1) (i := (k, n, z, at_, e1, e2)) ((k + 1, n, z + 1, at_, min (t.v ((k + 1) % 3)) (t.v ((k + 2) % 3)), max (t.v ((k + 1) % 3)) (t.v ((k + 2) % 3)))) (μd := []) ⟨by omega, by dsimp only; rw [cnt_step hk3, ← hc, if_neg o1]; omega, (by dsimp only; omega), (by dsimp only; omega), by dsimp only; rw [r_three hk3, ← hs]; unfold rStep; exact Prod.ext (if_neg q1).symm (if_pos ⟨o2, h115⟩).symm⟩ (by dsimp only; omega) (And.intro rfl (And.intro rfl (And.intro rfl (And.intro rfl (And.intro rfl (And.intro rfl (And.intro rfl (And.intro rfl (And.intro rfl (trivial)))))))))) (permI [] rfl) (fun _ h => nomatch h) (fun _ h => h)
                · try simp only [decide_eq_true_eq, decide_eq_false_iff_not, Bool.not_eq_true', Bool.not_eq_false', Bool.and_eq_true, Bool.and_eq_false_iff, beq_iff_eq, bne_iff_ne, beq_eq_false_iff_ne, bne_eq_false_iff_eq, ne_eq, decide_eq_decide] at h115
                  refine RJ_skip ?_
                  refine QJ_thenR (by repeat with_reducible first | exact no_round | exact no_begin | apply no_then | apply no_block) ?_
                  refine RJ_reg (by kernel_rfl) ?_
                  refine LJ_y rfl rfl (YJ_move rfl) ?_
                  first | refine LJ_y rfl rfl (YJ_bin rfl rfl (iop_add (by omega))) ?_ | refine LJ_y rfl rfl (YJ_bin rfl rfl rfl) ?_
                  refine LJ_y rfl rfl (YJ_assign rfl) ?_
                  refine LJ_nil ?_
                  refine QJ_in_normal ?_
                  refine QJ_in_normal ?_
                  refine QJ_thenR (by repeat with_reducible first | exact no_round | exact no_begin | apply no_then | apply no_block) ?_
                  refine RJ_reg (by kernel_rfl) ?_
                  first | refine LJ_y rfl rfl (YJ_bin rfl rfl (iop_add (by omega))) ?_ | refine LJ_y rfl rfl (YJ_bin rfl rfl rfl) ?_
                  refine LJ_y rfl rfl (YJ_move rfl) ?_
                  refine LJ_nil ?_
                  refine QJ_roundF (F := fun (i : Nat × Int × Int × Int × Int × Int) => ⟨[(3, .pointer (some ⟨b1, 0, none⟩)), (4, .pointer (some ⟨b2, 0, none⟩)), (9, .pointer (some ⟨b5, 0, none⟩)), (10, .pointer (some ⟨b6, 0, none⟩)), (11, .pointer (some ⟨b7, 0, none⟩)), (14, .pointer (some ⟨b8, 0, none⟩)), (15, .int .i64 i.2.1), (16, .int .i64 i.2.2.1), (53, .int .i64 (i.1 : Nat))], [cellsR b6 #[.int .i64 i.2.2.2.1] 3, cellsR b7 #[.int .i64 i.2.2.2.2.1, .int .i64 i.2.2.2.2.2] 46], []⟩) (I := fun (i : Nat × Int × Int × Int × Int × Int) => i.1 ≤ 3 ∧ i.2.1 + i.2.2.1 = cnt pts t (p1, p2) i.1 ∧ (0 ≤ i.2.1 ∧ i.2.1 ≤ i.1) ∧ (0 ≤ i.2.2.1 ∧ i.2.2.1 ≤ i.1) ∧ (i.2.2.2.1, i.2.2.2.2.1, i.2.2.2.2.2) = ([0, 1, 2].take i.1).foldl (rStep pts (p1, p2) t) iR.2) (m := fun (i : Nat × Int × Int × Int × Int × Int) => 3 - i.1) (i := (k, n, z, at_, e1, e2)) ((k + 1, n, z + 1, at_, e1, e2)) (μd := []) ⟨by omega, by dsimp only; rw [cnt_step hk3, ← hc, if_neg o1]; omega, (by dsimp only; omega), (by dsimp only; omega), by dsimp only; rw [r_three hk3, ← hs]; unfold rStep; exact Prod.ext (if_neg q1).symm (if_neg (fun q => h115 q.2)).symm⟩ (by dsimp only; omega) (And.intro rfl (And.intro rfl (And.intro rfl (And.intro rfl (And.intro rfl (And.intro rfl (And.intro rfl (And.intro rfl (And.intro rfl (trivial)))))))))) (permI [] rfl) (fun _ h => nomatch h) (fun _ h => h)
              · try simp only [decide_eq_true_eq, decide_eq_false_iff_not, Bool.not_eq_true', Bool.not_eq_false', Bool.and_eq_true, Bool.and_eq_false_iff, beq_iff_eq, bne_iff_ne, beq_eq_false_iff_ne, bne_eq_false_iff_eq, ne_eq, decide_eq_decide] at h98
                have o2 : ¬ edge pts t k (p1, p2) := fun q => h98 (sgn_zero.2 q)
                have o1 : bey pts t k (p1, p2) := sgn_else h94 h98
                refine RJ_skip ?_
                refine QJ_in_normal ?_
                refine QJ_in_normal ?_
                refine QJ_thenR (by repeat with_reducible first | exact no_round | exact no_begin | apply no_then | apply no_block) ?_
                refine RJ_reg (by kernel_rfl) ?_
                first | refine LJ_y rfl rfl (YJ_bin rfl rfl (iop_add (by omega))) ?_ | refine LJ_y rfl rfl (YJ_bin rfl rfl rfl) ?_
                refine LJ_y rfl rfl (YJ_move rfl) ?_
                refine LJ_nil ?_
                refine QJ_roundF (F := fun (i : Nat × Int × Int × Int × Int × Int) => ⟨[(3, .pointer (some ⟨b1, 0, none⟩)), (4, .pointer (some ⟨b2, 0, none⟩)), (9, .pointer (some ⟨b5, 0, none⟩)), (10, .pointer (some ⟨b6, 0, none⟩)), (11, .pointer (some ⟨b7, 0, none⟩)), (14, .pointer (some ⟨b8, 0, none⟩)), (15, .int .i64 i.2.1), (16, .int .i64 i.2.2.1), (53, .int .i64 (i.1 : Nat))], [cellsR b6 #[.int .i64 i.2.2.2.1] 3, cellsR b7 #[.int .i64 i.2.2.2.2.1, .int .i64 i.2.2.2.2.2] 46], []⟩) (I := fun (i : Nat × Int × Int × Int × Int × Int) => i.1 ≤ 3 ∧ i.2.1 + i.2.2.1 = cnt pts t (p1, p2) i.1 ∧ (0 ≤ i.2.1 ∧ i.2.1 ≤ i.1) ∧ (0 ≤ i.2.2.1 ∧ i.2.2.1 ≤ i.1) ∧ (i.2.2.2.1, i.2.2.2.2.1, i.2.2.2.2.2) = ([0, 1, 2].take i.1).foldl (rStep pts (p1, p2) t) iR.2) (m := fun (i : Nat × Int × Int × Int × Int × Int) => 3 - i.1) (i := (k, n, z, at_, e1, e2)) ((k + 1, n, z, at_, e1, e2)) (μd := []) ⟨by omega, by dsimp only; rw [cnt_step hk3, ← hc, if_pos o1]; omega, (by dsimp only; omega), (by dsimp only; omega), by dsimp only; rw [r_three hk3, ← hs]; unfold rStep; exact Prod.ext (if_neg q1).symm (if_neg (fun q => o2 q.1)).symm⟩ (by dsimp only; omega) (And.intro rfl (And.intro rfl (And.intro rfl (And.intro rfl (And.intro rfl (And.intro rfl (And.intro rfl (And.intro rfl (And.intro rfl (trivial)))))))))) (permI [] rfl) (fun _ h => nomatch h) (fun _ h => h)
        · try simp only [decide_eq_true_eq, decide_eq_false_iff_not, Bool.not_eq_true', Bool.not_eq_false', Bool.and_eq_true, Bool.and_eq_false_iff, beq_iff_eq, bne_iff_ne, beq_eq_false_iff_ne, bne_eq_false_iff_eq, ne_eq, decide_eq_decide] at h54
          refine RJ_exit ?_
          refine QJ_then_exit ?_
          refine QJ_then_exit ?_
          refine QJ_in_exit ?_
          refine QJ_thenR (by repeat with_reducible first | exact no_round | exact no_begin | apply no_then | apply no_block) ?_
          refine RJ_reg (by kernel_rfl) ?_
          first | refine LJ_y rfl rfl (YJ_loadL rfl tyi_4 (by repeat first | exact .head _ | apply List.Mem.tail) rfl) ?_ | refine LJ_y rfl rfl (YJ_loadFact rfl tyi_4 (by repeat first | exact .head _ | apply List.Mem.tail) rfl) ?_
          refine LJ_y rfl rfl (YJ_move rfl) ?_
          refine LJ_boolC (fun h127 => ?_) (fun h127 => ?_)
          · try simp only [decide_eq_true_eq, decide_eq_false_iff_not, Bool.not_eq_true', Bool.not_eq_false', Bool.and_eq_true, Bool.and_eq_false_iff, beq_iff_eq, bne_iff_ne, beq_eq_false_iff_ne, bne_eq_false_iff_eq, ne_eq, decide_eq_decide] at h127
            refine LJ_skip rfl rfl ?_
            refine LJ_skip rfl rfl ?_
            refine LJ_skip rfl rfl ?_
            refine LJ_skip rfl rfl ?_
            refine LJ_y rfl rfl (YJ_pickT rfl rfl) ?_
            refine LJ_store (cs' := #[_]) (μ' := [_, _, _, _, _, _, _, _]) 5 rfl rfl rfl rfl tyi_4 rfl (Nat.le_of_ble_eq_true rfl) rfl rfl rfl ?_
            refine LJ_nil ?_
            refine QJ_in_normal ?_
            refine QJ_again (μ1 := [_, _, _, _, _, _]) (μ2 := [_]) (φ1 := []) (permI [2, 3, 3, 0, 0, 1, 1] rfl) (fun _ h => nomatch h) ?_
            exact .inl ⟨rfl, (true, at_, e1, e2), (by
              have hI3 : iR = pre.foldl (rTri pts (p1, p2)) (false, -1, 0, 0) := hI
              show (_, at_, e1, e2) = (pre ++ [(m, t)]).foldl (rTri pts (p1, p2)) (false, -1, 0, 0)
              rw [List.foldl_append, ← hI3]
              show _ = (iR.1 || decide (hld pts t (p1, p2)), [0, 1, 2].foldl (rStep pts (p1, p2) t) iR.2)
              have hk4 : k = 3 := by omega
              subst hk4
              rw [show [0, 1, 2].foldl (rStep pts (p1, p2) t) iR.2 = (at_, e1, e2) from hs.symm]
              have hcn := cnt_three (pts := pts) (t := t) (p := (p1, p2))
              rw [← hc] at hcn
              simp [h127, ← hcn]), rfl, rfl⟩
          · try simp only [decide_eq_true_eq, decide_eq_false_iff_not, Bool.not_eq_true', Bool.not_eq_false', Bool.and_eq_true, Bool.and_eq_false_iff, beq_iff_eq, bne_iff_ne, beq_eq_false_iff_ne, bne_eq_false_iff_eq, ne_eq, decide_eq_decide] at h127
            refine LJ_y rfl rfl (YJ_move rfl) ?_
            refine LJ_y rfl rfl (YJ_move rfl) ?_
            first | refine LJ_y rfl rfl (YJ_bin rfl rfl (iop_add (by omega))) ?_ | refine LJ_y rfl rfl (YJ_bin rfl rfl rfl) ?_
            refine LJ_y rfl rfl (YJ_bin rfl rfl rfl) ?_
            refine LJ_y rfl rfl (YJ_pickF rfl rfl) ?_
            refine LJ_store (cs' := #[_]) (μ' := [_, _, _, _, _, _, _, _]) 5 rfl rfl rfl rfl tyi_4 rfl (Nat.le_of_ble_eq_true rfl) rfl rfl rfl ?_
            refine LJ_nil ?_
            refine QJ_in_normal ?_
            refine QJ_again (μ1 := [_, _, _, _, _, _]) (μ2 := [_]) (φ1 := []) (permI [2, 3, 3, 0, 0, 1, 1] rfl) (fun _ h => nomatch h) ?_
            exact .inl ⟨rfl, (decide (n + z = 3), at_, e1, e2), (by
              have hI3 : iR = pre.foldl (rTri pts (p1, p2)) (false, -1, 0, 0) := hI
              show (_, at_, e1, e2) = (pre ++ [(m, t)]).foldl (rTri pts (p1, p2)) (false, -1, 0, 0)
              rw [List.foldl_append, ← hI3]
              show _ = (iR.1 || decide (hld pts t (p1, p2)), [0, 1, 2].foldl (rStep pts (p1, p2) t) iR.2)
              have hk4 : k = 3 := by omega
              subst hk4
              rw [show [0, 1, 2].foldl (rStep pts (p1, p2) t) iR.2 = (at_, e1, e2) from hs.symm]
              have hcn := cnt_three (pts := pts) (t := t) (p := (p1, p2))
              rw [← hc] at hcn
              simp [h127, ← hcn]), rfl, rfl⟩
      · intro D0 iR hI
        obtain ⟨ins, at_, e1, e2⟩ := iR
        have he : rght pts tris (p1, p2) (x1, x2, x3, x4) = rEnd pts tris (p1, p2) (x1, x2, x3, x4) t (ins, at_, e1, e2) := by
          have hI2 : (ins, at_, e1, e2) = (reals tris).foldl (rTri pts (p1, p2)) (false, -1, 0, 0) := hI
          unfold rght
          rw [if_neg (by show ¬ x2 < 0; omega)]
          dsimp only
          rw [ht, ← hI2]
        show QJ _ _ _ _ (defR D0 :: cellsR b5 #[.bool ins] 4 :: cellsR b6 #[.int .i64 at_] 3 :: cellsR b7 #[.int .i64 e1, .int .i64 e2] 46 :: cellsR b2 #[.int .i64 p1, .int .i64 p2] 23 :: cellsR b1 #[.pointer (some ⟨B, 0, none⟩)] 28 :: _) _
        refine QJ_in_normal ?_
        refine QJ_then ?_
        refine CJ_seq ?_
        refine CJ_block ?_
        refine CJ_seq ?_
        refine CJ_reg ?_
        first | refine LJ_y rfl rfl (YJ_loadL rfl tyi_4 (by repeat first | exact .head _ | apply List.Mem.tail) rfl) ?_ | refine LJ_y rfl rfl (YJ_loadFact rfl tyi_4 (by repeat first | exact .head _ | apply List.Mem.tail) rfl) ?_
        refine LJ_y rfl rfl (YJ_not rfl) ?_
        refine LJ_y rfl rfl (YJ_assign rfl) ?_
        refine LJ_nil ?_
        refine QJ_then ?_
        refine CJ_cond rfl (fun h133 => ?_) (fun h133 => ?_)
        · try simp only [decide_eq_true_eq, decide_eq_false_iff_not, Bool.not_eq_true', Bool.not_eq_false', Bool.and_eq_true, Bool.and_eq_false_iff, beq_iff_eq, bne_iff_ne, beq_eq_false_iff_ne, bne_eq_false_iff_eq, ne_eq, decide_eq_decide] at h133
          refine CJ_seq ?_
          refine CJ_seq ?_
          refine CJ_reg ?_
          first | refine LJ_y rfl rfl (YJ_fieldOwn rfl fld_42_0 rfl) ?_ | refine LJ_y rfl rfl (YJ_fieldAddr rfl fld_42_0) ?_
          first | refine LJ_y rfl rfl (YJ_loadL rfl tyi_3 (by repeat first | exact .head _ | apply List.Mem.tail) rfl) ?_ | refine LJ_y rfl rfl (YJ_loadFact rfl tyi_3 (by repeat first | exact .head _ | apply List.Mem.tail) rfl) ?_
          refine LJ_y rfl rfl (YJ_bin rfl rfl rfl) ?_
          refine LJ_y rfl rfl (YJ_move rfl) ?_
          refine LJ_boolC (fun h139 => ?_) (fun h139 => ?_)
          · try simp only [decide_eq_true_eq, decide_eq_false_iff_not, Bool.not_eq_true', Bool.not_eq_false', Bool.and_eq_true, Bool.and_eq_false_iff, beq_iff_eq, bne_iff_ne, beq_eq_false_iff_ne, bne_eq_false_iff_eq, ne_eq, decide_eq_decide] at h139
            refine LJ_skip rfl rfl ?_
            refine LJ_skip rfl rfl ?_
            refine LJ_skip rfl rfl ?_
            refine LJ_skip rfl rfl ?_
            refine LJ_y rfl rfl (YJ_pickT rfl rfl) ?_
            refine LJ_y rfl rfl (YJ_move rfl) ?_
            refine LJ_skip rfl rfl ?_
            refine LJ_skip rfl rfl ?_
            refine LJ_skip rfl rfl ?_
            refine LJ_y rfl rfl (YJ_pickT rfl rfl) ?_
            refine LJ_y rfl rfl (YJ_move rfl) ?_
            refine LJ_skip rfl rfl ?_
            refine LJ_skip rfl rfl ?_
            refine LJ_skip rfl rfl ?_
            refine LJ_y rfl rfl (YJ_pickT rfl rfl) ?_
            refine LJ_nil ?_
            refine QJ_then ?_
            refine CJ_condT rfl ?_
            refine CJ_seq ?_
            refine CJ_reg ?_
            refine LJ_y rfl rfl (YJ_assign rfl) ?_
            refine LJ_nil ?_
            refine QJ_then ?_
            refine CJ_ret ?_
            refine QJ_then_ret ?_
            refine QJ_in_ret ?_
            refine QJ_then_ret ?_
            refine QJ_finM (.inl rfl) [D0] rfl (μ' := []) (μr := [_, _, _, _, _, _, _]) (φ' := []) (res_tmp rfl rfl) (permI [] rfl) (fun _ h => nomatch h) ?_
            exact ⟨congrArg Value.bool (by rw [he]; unfold rEnd rGhost hasV; (try simp only [← ptAt_def, sgn_pos]); first | (simp [h26, h35, h133, h139]; done) | grind), rfl, rfl⟩
          · try simp only [decide_eq_true_eq, decide_eq_false_iff_not, Bool.not_eq_true', Bool.not_eq_false', Bool.and_eq_true, Bool.and_eq_false_iff, beq_iff_eq, bne_iff_ne, beq_eq_false_iff_ne, bne_eq_false_iff_eq, ne_eq, decide_eq_decide] at h139
            first | refine LJ_y rfl rfl (YJ_loadL rfl tyi_28 (by repeat first | exact .head _ | apply List.Mem.tail) rfl) ?_ | refine LJ_y rfl rfl (YJ_loadFact rfl tyi_28 (by repeat first | exact .head _ | apply List.Mem.tail) rfl) ?_
            first | refine LJ_y rfl rfl (YJ_fieldOwn rfl fld_42_1 rfl) ?_ | refine LJ_y rfl rfl (YJ_fieldAddr rfl fld_42_1) ?_
            first | refine LJ_y rfl rfl (YJ_loadL rfl tyi_3 (by repeat first | exact .head _ | apply List.Mem.tail) rfl) ?_ | refine LJ_y rfl rfl (YJ_loadFact rfl tyi_3 (by repeat first | exact .head _ | apply List.Mem.tail) rfl) ?_
            refine LJ_call0 rfl rfl rfl rfl rfl (real_c (h := h) (pts := pts) (tris := tris)) (fun r h => .tail _ h) ?_
            refine LJ_y rfl rfl (YJ_pickF rfl rfl) ?_
            refine LJ_y rfl rfl (YJ_move rfl) ?_
            refine LJ_boolC (fun h145 => ?_) (fun h145 => ?_)
            · try simp only [decide_eq_true_eq, decide_eq_false_iff_not, Bool.not_eq_true', Bool.not_eq_false', Bool.and_eq_true, Bool.and_eq_false_iff, beq_iff_eq, bne_iff_ne, beq_eq_false_iff_ne, bne_eq_false_iff_eq, ne_eq, decide_eq_decide] at h145
              refine LJ_skip rfl rfl ?_
              refine LJ_skip rfl rfl ?_
              refine LJ_skip rfl rfl ?_
              refine LJ_y rfl rfl (YJ_pickT rfl rfl) ?_
              refine LJ_y rfl rfl (YJ_move rfl) ?_
              refine LJ_skip rfl rfl ?_
              refine LJ_skip rfl rfl ?_
              refine LJ_skip rfl rfl ?_
              refine LJ_y rfl rfl (YJ_pickT rfl rfl) ?_
              refine LJ_nil ?_
              refine QJ_then ?_
              refine CJ_condT rfl ?_
              refine CJ_seq ?_
              refine CJ_reg ?_
              refine LJ_y rfl rfl (YJ_assign rfl) ?_
              refine LJ_nil ?_
              refine QJ_then ?_
              refine CJ_ret ?_
              refine QJ_then_ret ?_
              refine QJ_in_ret ?_
              refine QJ_then_ret ?_
              refine QJ_finM (.inl rfl) [D0] rfl (μ' := []) (μr := [_, _, _, _, _, _, _]) (φ' := []) (res_tmp rfl rfl) (permI [] rfl) (fun _ h => nomatch h) ?_
              exact ⟨congrArg Value.bool (by rw [he]; unfold rEnd rGhost hasV; (try simp only [← ptAt_def, sgn_pos]); first | (simp [h26, h35, h133, h139, h145]; done) | grind), rfl, rfl⟩
            · try simp only [decide_eq_true_eq, decide_eq_false_iff_not, Bool.not_eq_true', Bool.not_eq_false', Bool.and_eq_true, Bool.and_eq_false_iff, beq_iff_eq, bne_iff_ne, beq_eq_false_iff_ne, bne_eq_false_iff_eq, ne_eq, decide_eq_decide] at h145
              first | refine LJ_y rfl rfl (YJ_fieldOwn rfl fld_42_2 rfl) ?_ | refine LJ_y rfl rfl (YJ_fieldAddr rfl fld_42_2) ?_
              first | refine LJ_y rfl rfl (YJ_loadL rfl tyi_3 (by repeat first | exact .head _ | apply List.Mem.tail) rfl) ?_ | refine LJ_y rfl rfl (YJ_loadFact rfl tyi_3 (by repeat first | exact .head _ | apply List.Mem.tail) rfl) ?_
              refine LJ_y rfl rfl (YJ_bin rfl rfl rfl) ?_
              refine LJ_y rfl rfl (YJ_pickF rfl rfl) ?_
              refine LJ_y rfl rfl (YJ_move rfl) ?_
              refine LJ_boolC (fun h150 => ?_) (fun h150 => ?_)
              · try simp only [decide_eq_true_eq, decide_eq_false_iff_not, Bool.not_eq_true', Bool.not_eq_false', Bool.and_eq_true, Bool.and_eq_false_iff, beq_iff_eq, bne_iff_ne, beq_eq_false_iff_ne, bne_eq_false_iff_eq, ne_eq, decide_eq_decide] at h150
                refine LJ_skip rfl rfl ?_
                refine LJ_skip rfl rfl ?_
                refine LJ_skip rfl rfl ?_
                refine LJ_y rfl rfl (YJ_pickT rfl rfl) ?_
                refine LJ_nil ?_
                refine QJ_then ?_
                refine CJ_condT rfl ?_
                refine CJ_seq ?_
                refine CJ_reg ?_
                refine LJ_y rfl rfl (YJ_assign rfl) ?_
                refine LJ_nil ?_
                refine QJ_then ?_
                refine CJ_ret ?_
                refine QJ_then_ret ?_
                refine QJ_in_ret ?_
                refine QJ_then_ret ?_
                refine QJ_finM (.inl rfl) [D0] rfl (μ' := []) (μr := [_, _, _, _, _, _, _]) (φ' := []) (res_tmp rfl rfl) (permI [] rfl) (fun _ h => nomatch h) ?_
                exact ⟨congrArg Value.bool (by rw [he]; unfold rEnd rGhost hasV; (try simp only [← ptAt_def, sgn_pos]); first | (simp [h26, h35, h133, h139, h145, h150]; done) | grind), rfl, rfl⟩
              · try simp only [decide_eq_true_eq, decide_eq_false_iff_not, Bool.not_eq_true', Bool.not_eq_false', Bool.and_eq_true, Bool.and_eq_false_iff, beq_iff_eq, bne_iff_ne, beq_eq_false_iff_ne, bne_eq_false_iff_eq, ne_eq, decide_eq_decide] at h150
                first | refine LJ_y rfl rfl (YJ_fieldOwn rfl fld_42_3 rfl) ?_ | refine LJ_y rfl rfl (YJ_fieldAddr rfl fld_42_3) ?_
                first | refine LJ_y rfl rfl (YJ_loadL rfl tyi_3 (by repeat first | exact .head _ | apply List.Mem.tail) rfl) ?_ | refine LJ_y rfl rfl (YJ_loadFact rfl tyi_3 (by repeat first | exact .head _ | apply List.Mem.tail) rfl) ?_
                refine LJ_y rfl rfl (YJ_bin rfl rfl rfl) ?_
                refine LJ_y rfl rfl (YJ_pickF rfl rfl) ?_
                refine LJ_nil ?_
                refine QJ_then ?_
                refine CJ_cond rfl (fun h154 => ?_) (fun h154 => ?_)
                · try simp only [decide_eq_true_eq, decide_eq_false_iff_not, Bool.not_eq_true', Bool.not_eq_false', Bool.and_eq_true, Bool.and_eq_false_iff, beq_iff_eq, bne_iff_ne, beq_eq_false_iff_ne, bne_eq_false_iff_eq, ne_eq, decide_eq_decide] at h154
                  refine CJ_seq ?_
                  refine CJ_reg ?_
                  refine LJ_y rfl rfl (YJ_assign rfl) ?_
                  refine LJ_nil ?_
                  refine QJ_then ?_
                  refine CJ_ret ?_
                  refine QJ_then_ret ?_
                  refine QJ_in_ret ?_
                  refine QJ_then_ret ?_
                  refine QJ_finM (.inl rfl) [D0] rfl (μ' := []) (μr := [_, _, _, _, _, _, _]) (φ' := []) (res_tmp rfl rfl) (permI [] rfl) (fun _ h => nomatch h) ?_
                  exact ⟨congrArg Value.bool (by rw [he]; unfold rEnd rGhost hasV; (try simp only [← ptAt_def, sgn_pos]); first | (simp [h26, h35, h133, h139, h145, h150, h154]; done) | grind), rfl, rfl⟩
                · try simp only [decide_eq_true_eq, decide_eq_false_iff_not, Bool.not_eq_true', Bool.not_eq_false', Bool.and_eq_true, Bool.and_eq_false_iff, beq_iff_eq, bne_iff_ne, beq_eq_false_iff_ne, bne_eq_false_iff_eq, ne_eq, decide_eq_decide] at h154
                  refine CJ_skip ?_
                  refine QJ_then ?_
                  refine CJ_seq ?_
                  refine CJ_seq ?_
                  refine CJ_reg ?_
                  refine LJ_y rfl rfl (YJ_move rfl) ?_
                  refine LJ_nil ?_
                  refine QJ_then ?_
                  refine CJ_block ?_
                  refine CJ_loopN 4 ?_
                  refine CN_succ ?_
                  refine CJ_seq ?_
                  refine CJ_reg ?_
                  refine LJ_y rfl rfl (YJ_bin rfl rfl rfl) ?_
                  refine LJ_nil ?_
                  refine QJ_then ?_
                  refine CJ_seq ?_
                  refine CJ_condT rfl ?_
                  refine CJ_skip ?_
                  refine QJ_then ?_
                  refine CJ_seq ?_
                  refine CJ_block ?_
                  refine CJ_seq ?_
                  refine CJ_reg ?_
                  refine LJ_y rfl rfl (YJ_move rfl) ?_
                  refine LJ_y rfl rfl (YJ_assign rfl) ?_
                  refine LJ_nil ?_
                  refine QJ_then ?_
                  refine CJ_seq ?_
                  refine CJ_reg ?_
                  refine LJ_y rfl rfl (YJ_move rfl) ?_
                  first | refine LJ_y rfl rfl (YJ_fieldOwn rfl fld_37_0 rfl) ?_ | refine LJ_y rfl rfl (YJ_fieldAddr rfl fld_37_0) ?_
                  first | refine LJ_y rfl rfl (YJ_ixArr rfl rfl arrt_34 (by omega) (by omega) rfl) ?_ | refine LJ_y rfl rfl (YJ_ixArrP rfl rfl arrt_34 (by omega) (by omega)) ?_
                  first | refine LJ_y rfl rfl (YJ_loadL rfl tyi_3 (by repeat first | exact .head _ | apply List.Mem.tail) rfl) ?_ | refine LJ_y rfl rfl (YJ_loadFact rfl tyi_3 (by repeat first | exact .head _ | apply List.Mem.tail) rfl) ?_
                  refine LJ_y rfl rfl (YJ_bin rfl rfl rfl) ?_
                  refine LJ_nil ?_
                  refine QJ_then ?_
                  refine CJ_cond rfl (fun h162 => ?_) (fun h162 => ?_)
                  · try simp only [decide_eq_true_eq, decide_eq_false_iff_not, Bool.not_eq_true', Bool.not_eq_false', Bool.and_eq_true, Bool.and_eq_false_iff, beq_iff_eq, bne_iff_ne, beq_eq_false_iff_ne, bne_eq_false_iff_eq, ne_eq, decide_eq_decide] at h162
                    obtain ⟨hg1, hg2⟩ := (hG t (List.mem_of_getElem? ht)).1 h162
                    have hpa := hP (t.v1).toNat (by omega)
                    have hpb := hP (t.v2).toNat (by omega)
                    refine CJ_seq ?_
                    refine CJ_regD mix (by kernel_rfl) (fun _ _ _ _ _ h => h) _ _ (fun _ h => h) (fun _ h => h) ?_
                    refine AJ_y 0 rfl (by kernel_rfl) (by kernel_rfl) rfl rfl (YJ_move rfl) ?_
                    first | refine AJ_y 1 rfl (by kernel_rfl) (by kernel_rfl) rfl rfl (YJ_bin rfl rfl (iop_add (by omega))) ?_ | refine AJ_y 1 rfl (by kernel_rfl) (by kernel_rfl) rfl rfl (YJ_bin rfl rfl rfl) ?_
                    refine AJ_y 2 rfl (by kernel_rfl) (by kernel_rfl) rfl rfl (YJ_rem rfl rfl (by first | decide | omega)) ?_
                    refine AJ_val (v := .int .i64 1) (rfl) ?_
                    first | refine AJ_y 3 rfl (by kernel_rfl) (by kernel_rfl) rfl rfl (YJ_fieldOwn rfl fld_37_0 rfl) ?_ | refine AJ_y 3 rfl (by kernel_rfl) (by kernel_rfl) rfl rfl (YJ_fieldAddr rfl fld_37_0) ?_
                    first | refine AJ_y 4 rfl (by kernel_rfl) (by kernel_rfl) rfl rfl (YJ_ixArr rfl rfl arrt_34 (by omega) (by omega) rfl) ?_ | refine AJ_y 4 rfl (by kernel_rfl) (by kernel_rfl) rfl rfl (YJ_ixArrP rfl rfl arrt_34 (by omega) (by omega)) ?_
                    first | refine AJ_y 5 rfl (by kernel_rfl) (by kernel_rfl) rfl rfl (YJ_loadL rfl tyi_3 (by repeat first | exact .head _ | apply List.Mem.tail) rfl) ?_ | refine AJ_y 5 rfl (by kernel_rfl) (by kernel_rfl) rfl rfl (YJ_loadFact rfl tyi_3 (by repeat first | exact .head _ | apply List.Mem.tail) rfl) ?_
                    refine AJ_y 6 rfl (by kernel_rfl) (by kernel_rfl) rfl rfl (YJ_move rfl) ?_
                    first | refine AJ_y 7 rfl (by kernel_rfl) (by kernel_rfl) rfl rfl (YJ_bin rfl rfl (iop_add (by omega))) ?_ | refine AJ_y 7 rfl (by kernel_rfl) (by kernel_rfl) rfl rfl (YJ_bin rfl rfl rfl) ?_
                    refine AJ_y 8 rfl (by kernel_rfl) (by kernel_rfl) rfl rfl (YJ_rem rfl rfl (by first | decide | omega)) ?_
                    refine AJ_val (v := .int .i64 2) (rfl) ?_
                    first | refine AJ_y 9 rfl (by kernel_rfl) (by kernel_rfl) rfl rfl (YJ_fieldOwn rfl fld_37_0 rfl) ?_ | refine AJ_y 9 rfl (by kernel_rfl) (by kernel_rfl) rfl rfl (YJ_fieldAddr rfl fld_37_0) ?_
                    first | refine AJ_y 10 rfl (by kernel_rfl) (by kernel_rfl) rfl rfl (YJ_ixArr rfl rfl arrt_34 (by omega) (by omega) rfl) ?_ | refine AJ_y 10 rfl (by kernel_rfl) (by kernel_rfl) rfl rfl (YJ_ixArrP rfl rfl arrt_34 (by omega) (by omega)) ?_
                    first | refine AJ_y 11 rfl (by kernel_rfl) (by kernel_rfl) rfl rfl (YJ_loadL rfl tyi_3 (by repeat first | exact .head _ | apply List.Mem.tail) rfl) ?_ | refine AJ_y 11 rfl (by kernel_rfl) (by kernel_rfl) rfl rfl (YJ_loadFact rfl tyi_3 (by repeat first | exact .head _ | apply List.Mem.tail) rfl) ?_
                    refine AJ_y 12 rfl (by kernel_rfl) (by kernel_rfl) rfl rfl (YJ_assign rfl) ?_
                    refine AJ_y 13 rfl (by kernel_rfl) (by kernel_rfl) rfl rfl (YJ_assign rfl) ?_
                    refine AJ_done (by kernel_rfl) ?_
                    refine QJ_then ?_
                    refine CJ_seq ?_
                    refine CJ_regD mix (by kernel_rfl) (fun _ _ _ _ _ h => h) _ _ (fun _ h => h) (fun _ h => h) ?_
                    first | refine AJ_y 0 rfl (by kernel_rfl) (by kernel_rfl) rfl rfl (YJ_loadL rfl tyi_28 (by repeat first | exact .head _ | apply List.Mem.tail) rfl) ?_ | refine AJ_y 0 rfl (by kernel_rfl) (by kernel_rfl) rfl rfl (YJ_loadFact rfl tyi_28 (by repeat first | exact .head _ | apply List.Mem.tail) rfl) ?_
                    refine AJ_y 1 rfl (by kernel_rfl) (by kernel_rfl) rfl rfl (YJ_nilCheck rfl) ?_
                    first | refine AJ_y 2 rfl (by kernel_rfl) (by kernel_rfl) rfl rfl (YJ_fieldOwn rfl fld_57_0 rfl) ?_ | refine AJ_y 2 rfl (by kernel_rfl) (by kernel_rfl) rfl rfl (YJ_fieldAddr rfl fld_57_0) ?_
                    refine AJ_y 3 rfl (by kernel_rfl) (by kernel_rfl) rfl rfl (YJ_loadFactP (A := some ⟨B, 0, none⟩) (j := 0) rfl rfl tyi_26 (by repeat first | exact .head _ | apply List.Mem.tail) rfl) ?_
                    refine AJ_y 4 rfl (by kernel_rfl) (by kernel_rfl) rfl rfl (YJ_move rfl) ?_
                    refine AJ_y 5 rfl (by kernel_rfl) (by kernel_rfl) rfl rfl (YJ_ixFact rfl rfl elt_26 (by repeat first | exact .head _ | apply List.Mem.tail) (by decide) (by omega) (by omega) (by omega)) ?_
                    refine AJ_y 6 rfl (by kernel_rfl) (by kernel_rfl) rfl rfl (YJ_loadFactN (vs := [_, _]) (xs := ptCells pts) rfl tyi_23 (by repeat first | exact .head _ | apply List.Mem.tail) (ptCells_get (i := (t.v1).toNat) (by omega)) rfl) ?_
                    first | refine AJ_y 7 rfl (by kernel_rfl) (by kernel_rfl) rfl rfl (YJ_loadL rfl tyi_28 (by repeat first | exact .head _ | apply List.Mem.tail) rfl) ?_ | refine AJ_y 7 rfl (by kernel_rfl) (by kernel_rfl) rfl rfl (YJ_loadFact rfl tyi_28 (by repeat first | exact .head _ | apply List.Mem.tail) rfl) ?_
                    refine AJ_y 8 rfl (by kernel_rfl) (by kernel_rfl) rfl rfl (YJ_nilCheck rfl) ?_
                    first | refine AJ_y 9 rfl (by kernel_rfl) (by kernel_rfl) rfl rfl (YJ_fieldOwn rfl fld_57_0 rfl) ?_ | refine AJ_y 9 rfl (by kernel_rfl) (by kernel_rfl) rfl rfl (YJ_fieldAddr rfl fld_57_0) ?_
                    refine AJ_y 10 rfl (by kernel_rfl) (by kernel_rfl) rfl rfl (YJ_loadFactP (A := some ⟨B, 0, none⟩) (j := 0) rfl rfl tyi_26 (by repeat first | exact .head _ | apply List.Mem.tail) rfl) ?_
                    refine AJ_y 11 rfl (by kernel_rfl) (by kernel_rfl) rfl rfl (YJ_move rfl) ?_
                    refine AJ_y 12 rfl (by kernel_rfl) (by kernel_rfl) rfl rfl (YJ_ixFact rfl rfl elt_26 (by repeat first | exact .head _ | apply List.Mem.tail) (by decide) (by omega) (by omega) (by omega)) ?_
                    refine AJ_y 13 rfl (by kernel_rfl) (by kernel_rfl) rfl rfl (YJ_loadFactN (vs := [_, _]) (xs := ptCells pts) rfl tyi_23 (by repeat first | exact .head _ | apply List.Mem.tail) (ptCells_get (i := (t.v2).toNat) (by omega)) rfl) ?_
                    first | refine AJ_y 14 rfl (by kernel_rfl) (by kernel_rfl) rfl rfl (YJ_loadN (vs := [_, _]) rfl tyi_23 (by repeat first | exact .head _ | apply List.Mem.tail) rfl rfl) ?_ | refine AJ_y 14 rfl (by kernel_rfl) (by kernel_rfl) rfl rfl (YJ_loadFactN (vs := [_, _]) rfl tyi_23 (by repeat first | exact .head _ | apply List.Mem.tail) rfl rfl) ?_
                    refine AJ_call0 15 rfl (by kernel_rfl) rfl rfl rfl rfl rfl (orient_c hpa hpb hp) (AllIn.sub (by first | exact trivial | exact And.intro (by repeat first | exact .head _ | apply List.Mem.tail) trivial | exact And.intro (by repeat first | exact .head _ | apply List.Mem.tail) (And.intro (by repeat first | exact .head _ | apply List.Mem.tail) trivial))) ?_
                    refine AJ_y 16 rfl (by kernel_rfl) (by kernel_rfl) rfl rfl (YJ_bin rfl rfl rfl) ?_
                    refine AJ_y 17 rfl (by kernel_rfl) (by kernel_rfl) rfl rfl (YJ_assign rfl) ?_
                    refine AJ_done (by kernel_rfl) ?_
                    refine QJ_then ?_
                    refine CJ_ret ?_
                    refine QJ_in_ret ?_
                    refine QJ_then_ret ?_
                    refine QJ_then_ret ?_
                    refine QJ_in_ret ?_
                    refine QJ_then_ret ?_
                    refine QJ_in_ret ?_
                    refine QJ_then_ret ?_
                    refine QJ_finM (.inl rfl) [D0] rfl (μ' := []) (μr := [_, _, _, _, _, _, _]) (φ' := []) (res_tmp rfl rfl) (permI [] rfl) (fun _ h => nomatch h) ?_
                    exact ⟨congrArg Value.bool (by rw [he]; unfold rEnd rGhost hasV; (try simp only [← ptAt_def, sgn_pos]); first | (simp [h26, h35, h133, h139, h145, h150, h154, h162]; done) | grind), rfl, rfl⟩
                  · try simp only [decide_eq_true_eq, decide_eq_false_iff_not, Bool.not_eq_true', Bool.not_eq_false', Bool.and_eq_true, Bool.and_eq_false_iff, beq_iff_eq, bne_iff_ne, beq_eq_false_iff_ne, bne_eq_false_iff_eq, ne_eq, decide_eq_decide] at h162
                    have hv0 : ¬ t.v0 = -1 := h162
                    refine CJ_skip ?_
                    refine QJ_in_normal ?_
                    refine QJ_then ?_
                    refine CJ_reg ?_
                    first | refine LJ_y rfl rfl (YJ_bin rfl rfl (iop_add (by omega))) ?_ | refine LJ_y rfl rfl (YJ_bin rfl rfl rfl) ?_
                    refine LJ_y rfl rfl (YJ_move rfl) ?_
                    refine LJ_nil ?_
                    refine QJ_thenN ?_
                    refine CN_succ ?_
                    refine CJ_seq ?_
                    refine CJ_reg ?_
                    refine LJ_y rfl rfl (YJ_bin rfl rfl rfl) ?_
                    refine LJ_nil ?_
                    refine QJ_then ?_
                    refine CJ_seq ?_
                    refine CJ_condT rfl ?_
                    refine CJ_skip ?_
                    refine QJ_then ?_
                    refine CJ_seq ?_
                    refine CJ_block ?_
                    refine CJ_seq ?_
                    refine CJ_reg ?_
                    refine LJ_y rfl rfl (YJ_move rfl) ?_
                    refine LJ_y rfl rfl (YJ_assign rfl) ?_
                    refine LJ_nil ?_
                    refine QJ_then ?_
                    refine CJ_seq ?_
                    refine CJ_reg ?_
                    refine LJ_y rfl rfl (YJ_move rfl) ?_
                    first | refine LJ_y rfl rfl (YJ_fieldOwn rfl fld_37_0 rfl) ?_ | refine LJ_y rfl rfl (YJ_fieldAddr rfl fld_37_0) ?_
                    first | refine LJ_y rfl rfl (YJ_ixArr rfl rfl arrt_34 (by omega) (by omega) rfl) ?_ | refine LJ_y rfl rfl (YJ_ixArrP rfl rfl arrt_34 (by omega) (by omega)) ?_
                    first | refine LJ_y rfl rfl (YJ_loadL rfl tyi_3 (by repeat first | exact .head _ | apply List.Mem.tail) rfl) ?_ | refine LJ_y rfl rfl (YJ_loadFact rfl tyi_3 (by repeat first | exact .head _ | apply List.Mem.tail) rfl) ?_
                    refine LJ_y rfl rfl (YJ_bin rfl rfl rfl) ?_
                    refine LJ_nil ?_
                    refine QJ_then ?_
                    refine CJ_cond rfl (fun h162 => ?_) (fun h162 => ?_)
                    · try simp only [decide_eq_true_eq, decide_eq_false_iff_not, Bool.not_eq_true', Bool.not_eq_false', Bool.and_eq_true, Bool.and_eq_false_iff, beq_iff_eq, bne_iff_ne, beq_eq_false_iff_ne, bne_eq_false_iff_eq, ne_eq, decide_eq_decide] at h162
                      obtain ⟨hg1, hg2⟩ := (hG t (List.mem_of_getElem? ht)).2.1 h162
                      have hpa := hP (t.v2).toNat (by omega)
                      have hpb := hP (t.v0).toNat (by omega)
                      refine CJ_seq ?_
                      refine CJ_regD mix (by kernel_rfl) (fun _ _ _ _ _ h => h) _ _ (fun _ h => h) (fun _ h => h) ?_
                      refine AJ_y 0 rfl (by kernel_rfl) (by kernel_rfl) rfl rfl (YJ_move rfl) ?_
                      first | refine AJ_y 1 rfl (by kernel_rfl) (by kernel_rfl) rfl rfl (YJ_bin rfl rfl (iop_add (by omega))) ?_ | refine AJ_y 1 rfl (by kernel_rfl) (by kernel_rfl) rfl rfl (YJ_bin rfl rfl rfl) ?_
                      refine AJ_y 2 rfl (by kernel_rfl) (by kernel_rfl) rfl rfl (YJ_rem rfl rfl (by first | decide | omega)) ?_
                      refine AJ_val (v := .int .i64 2) (rfl) ?_
                      first | refine AJ_y 3 rfl (by kernel_rfl) (by kernel_rfl) rfl rfl (YJ_fieldOwn rfl fld_37_0 rfl) ?_ | refine AJ_y 3 rfl (by kernel_rfl) (by kernel_rfl) rfl rfl (YJ_fieldAddr rfl fld_37_0) ?_
                      first | refine AJ_y 4 rfl (by kernel_rfl) (by kernel_rfl) rfl rfl (YJ_ixArr rfl rfl arrt_34 (by omega) (by omega) rfl) ?_ | refine AJ_y 4 rfl (by kernel_rfl) (by kernel_rfl) rfl rfl (YJ_ixArrP rfl rfl arrt_34 (by omega) (by omega)) ?_
                      first | refine AJ_y 5 rfl (by kernel_rfl) (by kernel_rfl) rfl rfl (YJ_loadL rfl tyi_3 (by repeat first | exact .head _ | apply List.Mem.tail) rfl) ?_ | refine AJ_y 5 rfl (by kernel_rfl) (by kernel_rfl) rfl rfl (YJ_loadFact rfl tyi_3 (by repeat first | exact .head _ | apply List.Mem.tail) rfl) ?_
                      refine AJ_y 6 rfl (by kernel_rfl) (by kernel_rfl) rfl rfl (YJ_move rfl) ?_
                      first | refine AJ_y 7 rfl (by kernel_rfl) (by kernel_rfl) rfl rfl (YJ_bin rfl rfl (iop_add (by omega))) ?_ | refine AJ_y 7 rfl (by kernel_rfl) (by kernel_rfl) rfl rfl (YJ_bin rfl rfl rfl) ?_
                      refine AJ_y 8 rfl (by kernel_rfl) (by kernel_rfl) rfl rfl (YJ_rem rfl rfl (by first | decide | omega)) ?_
                      refine AJ_val (v := .int .i64 0) (rfl) ?_
                      first | refine AJ_y 9 rfl (by kernel_rfl) (by kernel_rfl) rfl rfl (YJ_fieldOwn rfl fld_37_0 rfl) ?_ | refine AJ_y 9 rfl (by kernel_rfl) (by kernel_rfl) rfl rfl (YJ_fieldAddr rfl fld_37_0) ?_
                      first | refine AJ_y 10 rfl (by kernel_rfl) (by kernel_rfl) rfl rfl (YJ_ixArr rfl rfl arrt_34 (by omega) (by omega) rfl) ?_ | refine AJ_y 10 rfl (by kernel_rfl) (by kernel_rfl) rfl rfl (YJ_ixArrP rfl rfl arrt_34 (by omega) (by omega)) ?_
                      first | refine AJ_y 11 rfl (by kernel_rfl) (by kernel_rfl) rfl rfl (YJ_loadL rfl tyi_3 (by repeat first | exact .head _ | apply List.Mem.tail) rfl) ?_ | refine AJ_y 11 rfl (by kernel_rfl) (by kernel_rfl) rfl rfl (YJ_loadFact rfl tyi_3 (by repeat first | exact .head _ | apply List.Mem.tail) rfl) ?_
                      refine AJ_y 12 rfl (by kernel_rfl) (by kernel_rfl) rfl rfl (YJ_assign rfl) ?_
                      refine AJ_y 13 rfl (by kernel_rfl) (by kernel_rfl) rfl rfl (YJ_assign rfl) ?_
                      refine AJ_done (by kernel_rfl) ?_
                      refine QJ_then ?_
                      refine CJ_seq ?_
                      refine CJ_regD mix (by kernel_rfl) (fun _ _ _ _ _ h => h) _ _ (fun _ h => h) (fun _ h => h) ?_
                      first | refine AJ_y 0 rfl (by kernel_rfl) (by kernel_rfl) rfl rfl (YJ_loadL rfl tyi_28 (by repeat first | exact .head _ | apply List.Mem.tail) rfl) ?_ | refine AJ_y 0 rfl (by kernel_rfl) (by kernel_rfl) rfl rfl (YJ_loadFact rfl tyi_28 (by repeat first | exact .head _ | apply List.Mem.tail) rfl) ?_
                      refine AJ_y 1 rfl (by kernel_rfl) (by kernel_rfl) rfl rfl (YJ_nilCheck rfl) ?_
                      first | refine AJ_y 2 rfl (by kernel_rfl) (by kernel_rfl) rfl rfl (YJ_fieldOwn rfl fld_57_0 rfl) ?_ | refine AJ_y 2 rfl (by kernel_rfl) (by kernel_rfl) rfl rfl (YJ_fieldAddr rfl fld_57_0) ?_
                      refine AJ_y 3 rfl (by kernel_rfl) (by kernel_rfl) rfl rfl (YJ_loadFactP (A := some ⟨B, 0, none⟩) (j := 0) rfl rfl tyi_26 (by repeat first | exact .head _ | apply List.Mem.tail) rfl) ?_
                      refine AJ_y 4 rfl (by kernel_rfl) (by kernel_rfl) rfl rfl (YJ_move rfl) ?_
                      refine AJ_y 5 rfl (by kernel_rfl) (by kernel_rfl) rfl rfl (YJ_ixFact rfl rfl elt_26 (by repeat first | exact .head _ | apply List.Mem.tail) (by decide) (by omega) (by omega) (by omega)) ?_
                      refine AJ_y 6 rfl (by kernel_rfl) (by kernel_rfl) rfl rfl (YJ_loadFactN (vs := [_, _]) (xs := ptCells pts) rfl tyi_23 (by repeat first | exact .head _ | apply List.Mem.tail) (ptCells_get (i := (t.v2).toNat) (by omega)) rfl) ?_
                      first | refine AJ_y 7 rfl (by kernel_rfl) (by kernel_rfl) rfl rfl (YJ_loadL rfl tyi_28 (by repeat first | exact .head _ | apply List.Mem.tail) rfl) ?_ | refine AJ_y 7 rfl (by kernel_rfl) (by kernel_rfl) rfl rfl (YJ_loadFact rfl tyi_28 (by repeat first | exact .head _ | apply List.Mem.tail) rfl) ?_
                      refine AJ_y 8 rfl (by kernel_rfl) (by kernel_rfl) rfl rfl (YJ_nilCheck rfl) ?_
                      first | refine AJ_y 9 rfl (by kernel_rfl) (by kernel_rfl) rfl rfl (YJ_fieldOwn rfl fld_57_0 rfl) ?_ | refine AJ_y 9 rfl (by kernel_rfl) (by kernel_rfl) rfl rfl (YJ_fieldAddr rfl fld_57_0) ?_
                      refine AJ_y 10 rfl (by kernel_rfl) (by kernel_rfl) rfl rfl (YJ_loadFactP (A := some ⟨B, 0, none⟩) (j := 0) rfl rfl tyi_26 (by repeat first | exact .head _ | apply List.Mem.tail) rfl) ?_
                      refine AJ_y 11 rfl (by kernel_rfl) (by kernel_rfl) rfl rfl (YJ_move rfl) ?_
                      refine AJ_y 12 rfl (by kernel_rfl) (by kernel_rfl) rfl rfl (YJ_ixFact rfl rfl elt_26 (by repeat first | exact .head _ | apply List.Mem.tail) (by decide) (by omega) (by omega) (by omega)) ?_
                      refine AJ_y 13 rfl (by kernel_rfl) (by kernel_rfl) rfl rfl (YJ_loadFactN (vs := [_, _]) (xs := ptCells pts) rfl tyi_23 (by repeat first | exact .head _ | apply List.Mem.tail) (ptCells_get (i := (t.v0).toNat) (by omega)) rfl) ?_
                      first | refine AJ_y 14 rfl (by kernel_rfl) (by kernel_rfl) rfl rfl (YJ_loadN (vs := [_, _]) rfl tyi_23 (by repeat first | exact .head _ | apply List.Mem.tail) rfl rfl) ?_ | refine AJ_y 14 rfl (by kernel_rfl) (by kernel_rfl) rfl rfl (YJ_loadFactN (vs := [_, _]) rfl tyi_23 (by repeat first | exact .head _ | apply List.Mem.tail) rfl rfl) ?_
                      refine AJ_call0 15 rfl (by kernel_rfl) rfl rfl rfl rfl rfl (orient_c hpa hpb hp) (AllIn.sub (by first | exact trivial | exact And.intro (by repeat first | exact .head _ | apply List.Mem.tail) trivial | exact And.intro (by repeat first | exact .head _ | apply List.Mem.tail) (And.intro (by repeat first | exact .head _ | apply List.Mem.tail) trivial))) ?_
                      refine AJ_y 16 rfl (by kernel_rfl) (by kernel_rfl) rfl rfl (YJ_bin rfl rfl rfl) ?_
                      refine AJ_y 17 rfl (by kernel_rfl) (by kernel_rfl) rfl rfl (YJ_assign rfl) ?_
                      refine AJ_done (by kernel_rfl) ?_
                      refine QJ_then ?_
                      refine CJ_ret ?_
                      refine QJ_in_ret ?_
                      refine QJ_then_ret ?_
                      refine QJ_then_ret ?_
                      refine QJ_in_ret ?_
                      refine QJ_then_ret ?_
                      refine QJ_in_ret ?_
                      refine QJ_then_ret ?_
                      refine QJ_finM (.inl rfl) [D0] rfl (μ' := []) (μr := [_, _, _, _, _, _, _]) (φ' := []) (res_tmp rfl rfl) (permI [] rfl) (fun _ h => nomatch h) ?_
                      exact ⟨congrArg Value.bool (by rw [he]; unfold rEnd rGhost hasV; (try simp only [← ptAt_def, sgn_pos]); first | (simp [h26, h35, h133, h139, h145, h150, h154, h162, hv0]; done) | grind), rfl, rfl⟩
                    · try simp only [decide_eq_true_eq, decide_eq_false_iff_not, Bool.not_eq_true', Bool.not_eq_false', Bool.and_eq_true, Bool.and_eq_false_iff, beq_iff_eq, bne_iff_ne, beq_eq_false_iff_ne, bne_eq_false_iff_eq, ne_eq, decide_eq_decide] at h162
                      have hv1 : ¬ t.v1 = -1 := h162
                      refine CJ_skip ?_
                      refine QJ_in_normal ?_
                      refine QJ_then ?_
                      refine CJ_reg ?_
                      first | refine LJ_y rfl rfl (YJ_bin rfl rfl (iop_add (by omega))) ?_ | refine LJ_y rfl rfl (YJ_bin rfl rfl rfl) ?_
                      refine LJ_y rfl rfl (YJ_move rfl) ?_
                      refine LJ_nil ?_
                      refine QJ_thenN ?_
                      refine CN_succ ?_
                      refine CJ_seq ?_
                      refine CJ_reg ?_
                      refine LJ_y rfl rfl (YJ_bin rfl rfl rfl) ?_
                      refine LJ_nil ?_
                      refine QJ_then ?_
                      refine CJ_seq ?_
                      refine CJ_condT rfl ?_
                      refine CJ_skip ?_
                      refine QJ_then ?_
                      refine CJ_seq ?_
                      refine CJ_block ?_
                      refine CJ_seq ?_
                      refine CJ_reg ?_
                      refine LJ_y rfl rfl (YJ_move rfl) ?_
                      refine LJ_y rfl rfl (YJ_assign rfl) ?_
                      refine LJ_nil ?_
                      refine QJ_then ?_
                      refine CJ_seq ?_
                      refine CJ_reg ?_
                      refine LJ_y rfl rfl (YJ_move rfl) ?_
                      first | refine LJ_y rfl rfl (YJ_fieldOwn rfl fld_37_0 rfl) ?_ | refine LJ_y rfl rfl (YJ_fieldAddr rfl fld_37_0) ?_
                      first | refine LJ_y rfl rfl (YJ_ixArr rfl rfl arrt_34 (by omega) (by omega) rfl) ?_ | refine LJ_y rfl rfl (YJ_ixArrP rfl rfl arrt_34 (by omega) (by omega)) ?_
                      first | refine LJ_y rfl rfl (YJ_loadL rfl tyi_3 (by repeat first | exact .head _ | apply List.Mem.tail) rfl) ?_ | refine LJ_y rfl rfl (YJ_loadFact rfl tyi_3 (by repeat first | exact .head _ | apply List.Mem.tail) rfl) ?_
                      refine LJ_y rfl rfl (YJ_bin rfl rfl rfl) ?_
                      refine LJ_nil ?_
                      refine QJ_then ?_
                      refine CJ_cond rfl (fun h162 => ?_) (fun h162 => ?_)
                      · try simp only [decide_eq_true_eq, decide_eq_false_iff_not, Bool.not_eq_true', Bool.not_eq_false', Bool.and_eq_true, Bool.and_eq_false_iff, beq_iff_eq, bne_iff_ne, beq_eq_false_iff_ne, bne_eq_false_iff_eq, ne_eq, decide_eq_decide] at h162
                        obtain ⟨hg1, hg2⟩ := (hG t (List.mem_of_getElem? ht)).2.2 h162
                        have hpa := hP (t.v0).toNat (by omega)
                        have hpb := hP (t.v1).toNat (by omega)
                        refine CJ_seq ?_
                        refine CJ_regD mix (by kernel_rfl) (fun _ _ _ _ _ h => h) _ _ (fun _ h => h) (fun _ h => h) ?_
                        refine AJ_y 0 rfl (by kernel_rfl) (by kernel_rfl) rfl rfl (YJ_move rfl) ?_
                        first | refine AJ_y 1 rfl (by kernel_rfl) (by kernel_rfl) rfl rfl (YJ_bin rfl rfl (iop_add (by omega))) ?_ | refine AJ_y 1 rfl (by kernel_rfl) (by kernel_rfl) rfl rfl (YJ_bin rfl rfl rfl) ?_
                        refine AJ_y 2 rfl (by kernel_rfl) (by kernel_rfl) rfl rfl (YJ_rem rfl rfl (by first | decide | omega)) ?_
                        refine AJ_val (v := .int .i64 0) (rfl) ?_
                        first | refine AJ_y 3 rfl (by kernel_rfl) (by kernel_rfl) rfl rfl (YJ_fieldOwn rfl fld_37_0 rfl) ?_ | refine AJ_y 3 rfl (by kernel_rfl) (by kernel_rfl) rfl rfl (YJ_fieldAddr rfl fld_37_0) ?_
                        first | refine AJ_y 4 rfl (by kernel_rfl) (by kernel_rfl) rfl rfl (YJ_ixArr rfl rfl arrt_34 (by omega) (by omega) rfl) ?_ | refine AJ_y 4 rfl (by kernel_rfl) (by kernel_rfl) rfl rfl (YJ_ixArrP rfl rfl arrt_34 (by omega) (by omega)) ?_
                        first | refine AJ_y 5 rfl (by kernel_rfl) (by kernel_rfl) rfl rfl (YJ_loadL rfl tyi_3 (by repeat first | exact .head _ | apply List.Mem.tail) rfl) ?_ | refine AJ_y 5 rfl (by kernel_rfl) (by kernel_rfl) rfl rfl (YJ_loadFact rfl tyi_3 (by repeat first | exact .head _ | apply List.Mem.tail) rfl) ?_
                        refine AJ_y 6 rfl (by kernel_rfl) (by kernel_rfl) rfl rfl (YJ_move rfl) ?_
                        first | refine AJ_y 7 rfl (by kernel_rfl) (by kernel_rfl) rfl rfl (YJ_bin rfl rfl (iop_add (by omega))) ?_ | refine AJ_y 7 rfl (by kernel_rfl) (by kernel_rfl) rfl rfl (YJ_bin rfl rfl rfl) ?_
                        refine AJ_y 8 rfl (by kernel_rfl) (by kernel_rfl) rfl rfl (YJ_rem rfl rfl (by first | decide | omega)) ?_
                        refine AJ_val (v := .int .i64 1) (rfl) ?_
                        first | refine AJ_y 9 rfl (by kernel_rfl) (by kernel_rfl) rfl rfl (YJ_fieldOwn rfl fld_37_0 rfl) ?_ | refine AJ_y 9 rfl (by kernel_rfl) (by kernel_rfl) rfl rfl (YJ_fieldAddr rfl fld_37_0) ?_
                        first | refine AJ_y 10 rfl (by kernel_rfl) (by kernel_rfl) rfl rfl (YJ_ixArr rfl rfl arrt_34 (by omega) (by omega) rfl) ?_ | refine AJ_y 10 rfl (by kernel_rfl) (by kernel_rfl) rfl rfl (YJ_ixArrP rfl rfl arrt_34 (by omega) (by omega)) ?_
                        first | refine AJ_y 11 rfl (by kernel_rfl) (by kernel_rfl) rfl rfl (YJ_loadL rfl tyi_3 (by repeat first | exact .head _ | apply List.Mem.tail) rfl) ?_ | refine AJ_y 11 rfl (by kernel_rfl) (by kernel_rfl) rfl rfl (YJ_loadFact rfl tyi_3 (by repeat first | exact .head _ | apply List.Mem.tail) rfl) ?_
                        refine AJ_y 12 rfl (by kernel_rfl) (by kernel_rfl) rfl rfl (YJ_assign rfl) ?_
                        refine AJ_y 13 rfl (by kernel_rfl) (by kernel_rfl) rfl rfl (YJ_assign rfl) ?_
                        refine AJ_done (by kernel_rfl) ?_
                        refine QJ_then ?_
                        refine CJ_seq ?_
                        refine CJ_regD mix (by kernel_rfl) (fun _ _ _ _ _ h => h) _ _ (fun _ h => h) (fun _ h => h) ?_
                        first | refine AJ_y 0 rfl (by kernel_rfl) (by kernel_rfl) rfl rfl (YJ_loadL rfl tyi_28 (by repeat first | exact .head _ | apply List.Mem.tail) rfl) ?_ | refine AJ_y 0 rfl (by kernel_rfl) (by kernel_rfl) rfl rfl (YJ_loadFact rfl tyi_28 (by repeat first | exact .head _ | apply List.Mem.tail) rfl) ?_
                        refine AJ_y 1 rfl (by kernel_rfl) (by kernel_rfl) rfl rfl (YJ_nilCheck rfl) ?_
                        first | refine AJ_y 2 rfl (by kernel_rfl) (by kernel_rfl) rfl rfl (YJ_fieldOwn rfl fld_57_0 rfl) ?_ | refine AJ_y 2 rfl (by kernel_rfl) (by kernel_rfl) rfl rfl (YJ_fieldAddr rfl fld_57_0) ?_
                        refine AJ_y 3 rfl (by kernel_rfl) (by kernel_rfl) rfl rfl (YJ_loadFactP (A := some ⟨B, 0, none⟩) (j := 0) rfl rfl tyi_26 (by repeat first | exact .head _ | apply List.Mem.tail) rfl) ?_
                        refine AJ_y 4 rfl (by kernel_rfl) (by kernel_rfl) rfl rfl (YJ_move rfl) ?_
                        refine AJ_y 5 rfl (by kernel_rfl) (by kernel_rfl) rfl rfl (YJ_ixFact rfl rfl elt_26 (by repeat first | exact .head _ | apply List.Mem.tail) (by decide) (by omega) (by omega) (by omega)) ?_
                        refine AJ_y 6 rfl (by kernel_rfl) (by kernel_rfl) rfl rfl (YJ_loadFactN (vs := [_, _]) (xs := ptCells pts) rfl tyi_23 (by repeat first | exact .head _ | apply List.Mem.tail) (ptCells_get (i := (t.v0).toNat) (by omega)) rfl) ?_
                        first | refine AJ_y 7 rfl (by kernel_rfl) (by kernel_rfl) rfl rfl (YJ_loadL rfl tyi_28 (by repeat first | exact .head _ | apply List.Mem.tail) rfl) ?_ | refine AJ_y 7 rfl (by kernel_rfl) (by kernel_rfl) rfl rfl (YJ_loadFact rfl tyi_28 (by repeat first | exact .head _ | apply List.Mem.tail) rfl) ?_
                        refine AJ_y 8 rfl (by kernel_rfl) (by kernel_rfl) rfl rfl (YJ_nilCheck rfl) ?_
                        first | refine AJ_y 9 rfl (by kernel_rfl) (by kernel_rfl) rfl rfl (YJ_fieldOwn rfl fld_57_0 rfl) ?_ | refine AJ_y 9 rfl (by kernel_rfl) (by kernel_rfl) rfl rfl (YJ_fieldAddr rfl fld_57_0) ?_
                        refine AJ_y 10 rfl (by kernel_rfl) (by kernel_rfl) rfl rfl (YJ_loadFactP (A := some ⟨B, 0, none⟩) (j := 0) rfl rfl tyi_26 (by repeat first | exact .head _ | apply List.Mem.tail) rfl) ?_
                        refine AJ_y 11 rfl (by kernel_rfl) (by kernel_rfl) rfl rfl (YJ_move rfl) ?_
                        refine AJ_y 12 rfl (by kernel_rfl) (by kernel_rfl) rfl rfl (YJ_ixFact rfl rfl elt_26 (by repeat first | exact .head _ | apply List.Mem.tail) (by decide) (by omega) (by omega) (by omega)) ?_
                        refine AJ_y 13 rfl (by kernel_rfl) (by kernel_rfl) rfl rfl (YJ_loadFactN (vs := [_, _]) (xs := ptCells pts) rfl tyi_23 (by repeat first | exact .head _ | apply List.Mem.tail) (ptCells_get (i := (t.v1).toNat) (by omega)) rfl) ?_
                        first | refine AJ_y 14 rfl (by kernel_rfl) (by kernel_rfl) rfl rfl (YJ_loadN (vs := [_, _]) rfl tyi_23 (by repeat first | exact .head _ | apply List.Mem.tail) rfl rfl) ?_ | refine AJ_y 14 rfl (by kernel_rfl) (by kernel_rfl) rfl rfl (YJ_loadFactN (vs := [_, _]) rfl tyi_23 (by repeat first | exact .head _ | apply List.Mem.tail) rfl rfl) ?_
                        refine AJ_call0 15 rfl (by kernel_rfl) rfl rfl rfl rfl rfl (orient_c hpa hpb hp) (AllIn.sub (by first | exact trivial | exact And.intro (by repeat first | exact .head _ | apply List.Mem.tail) trivial | exact And.intro (by repeat first | exact .head _ | apply List.Mem.tail) (And.intro (by repeat first | exact .head _ | apply List.Mem.tail) trivial))) ?_
                        refine AJ_y 16 rfl (by kernel_rfl) (by kernel_rfl) rfl rfl (YJ_bin rfl rfl rfl) ?_
                        refine AJ_y 17 rfl (by kernel_rfl) (by kernel_rfl) rfl rfl (YJ_assign rfl) ?_
                        refine AJ_done (by kernel_rfl) ?_
                        refine QJ_then ?_
                        refine CJ_ret ?_
                        refine QJ_in_ret ?_
                        refine QJ_then_ret ?_
                        refine QJ_then_ret ?_
                        refine QJ_in_ret ?_
                        refine QJ_then_ret ?_
                        refine QJ_in_ret ?_
                        refine QJ_then_ret ?_
                        refine QJ_finM (.inl rfl) [D0] rfl (μ' := []) (μr := [_, _, _, _, _, _, _]) (φ' := []) (res_tmp rfl rfl) (permI [] rfl) (fun _ h => nomatch h) ?_
                        exact ⟨congrArg Value.bool (by rw [he]; unfold rEnd rGhost hasV; (try simp only [← ptAt_def, sgn_pos]); first | (simp [h26, h35, h133, h139, h145, h150, h154, h162, hv0, hv1]; done) | grind), rfl, rfl⟩
                      · try simp only [decide_eq_true_eq, decide_eq_false_iff_not, Bool.not_eq_true', Bool.not_eq_false', Bool.and_eq_true, Bool.and_eq_false_iff, beq_iff_eq, bne_iff_ne, beq_eq_false_iff_ne, bne_eq_false_iff_eq, ne_eq, decide_eq_decide] at h162
                        have hv2 : ¬ t.v2 = -1 := h162
                        refine CJ_skip ?_
                        refine QJ_in_normal ?_
                        refine QJ_then ?_
                        refine CJ_reg ?_
                        first | refine LJ_y rfl rfl (YJ_bin rfl rfl (iop_add (by omega))) ?_ | refine LJ_y rfl rfl (YJ_bin rfl rfl rfl) ?_
                        refine LJ_y rfl rfl (YJ_move rfl) ?_
                        refine LJ_nil ?_
                        refine QJ_thenN ?_
                        refine CN_succ ?_
                        refine CJ_seq ?_
                        refine CJ_reg ?_
                        refine LJ_y rfl rfl (YJ_bin rfl rfl rfl) ?_
                        refine LJ_nil ?_
                        refine QJ_then ?_
                        refine CJ_seq ?_
                        refine CJ_condF rfl ?_
                        refine CJ_exit ?_
                        refine QJ_then_exit ?_
                        refine QJ_then_exit ?_
                        refine QJ_in_exit ?_
                        refine QJ_then ?_
                        refine CJ_seq ?_
                        refine CJ_reg ?_
                        refine LJ_y rfl rfl (YJ_assign rfl) ?_
                        refine LJ_nil ?_
                        refine QJ_then ?_
                        refine CJ_ret ?_
                        refine QJ_in_ret ?_
                        refine QJ_then_ret ?_
                        refine QJ_finM (.inl rfl) [D0] rfl (μ' := []) (μr := [_, _, _, _, _, _, _]) (φ' := []) (res_tmp rfl rfl) (permI [] rfl) (fun _ h => nomatch h) ?_
                        exact ⟨congrArg Value.bool (by rw [he]; unfold rEnd rGhost hasV; (try simp only [← ptAt_def, sgn_pos]); first | (simp [h26, h35, h133, h139, h145, h150, h154, hv0, hv1, hv2]; done) | grind), rfl, rfl⟩
        · try simp only [decide_eq_true_eq, decide_eq_false_iff_not, Bool.not_eq_true', Bool.not_eq_false', Bool.and_eq_true, Bool.and_eq_false_iff, beq_iff_eq, bne_iff_ne, beq_eq_false_iff_ne, bne_eq_false_iff_eq, ne_eq, decide_eq_decide] at h133
          refine CJ_seq ?_
          refine CJ_reg ?_
          first | refine LJ_y rfl rfl (YJ_loadL rfl tyi_28 (by repeat first | exact .head _ | apply List.Mem.tail) rfl) ?_ | refine LJ_y rfl rfl (YJ_loadFact rfl tyi_28 (by repeat first | exact .head _ | apply List.Mem.tail) rfl) ?_
          first | refine LJ_y rfl rfl (YJ_fieldOwn rfl fld_42_1 rfl) ?_ | refine LJ_y rfl rfl (YJ_fieldAddr rfl fld_42_1) ?_
          first | refine LJ_y rfl rfl (YJ_loadL rfl tyi_3 (by repeat first | exact .head _ | apply List.Mem.tail) rfl) ?_ | refine LJ_y rfl rfl (YJ_loadFact rfl tyi_3 (by repeat first | exact .head _ | apply List.Mem.tail) rfl) ?_
          refine LJ_call0 rfl rfl rfl rfl rfl (real_c (h := h) (pts := pts) (tris := tris)) (fun r h => .tail _ h) ?_
          refine LJ_y rfl rfl (YJ_not rfl) ?_
          refine LJ_y rfl rfl (YJ_assign rfl) ?_
          refine LJ_nil ?_
          refine QJ_then ?_
          refine CJ_cond rfl (fun h193 => ?_) (fun h193 => ?_)
          · try simp only [decide_eq_true_eq, decide_eq_false_iff_not, Bool.not_eq_true', Bool.not_eq_false', Bool.and_eq_true, Bool.and_eq_false_iff, beq_iff_eq, bne_iff_ne, beq_eq_false_iff_ne, bne_eq_false_iff_eq, ne_eq, decide_eq_decide] at h193
            refine CJ_seq ?_
            refine CJ_reg ?_
            refine LJ_y rfl rfl (YJ_assign rfl) ?_
            refine LJ_nil ?_
            refine QJ_then ?_
            refine CJ_ret ?_
            refine QJ_in_ret ?_
            refine QJ_then_ret ?_
            refine QJ_finM (.inl rfl) [D0] rfl (μ' := []) (μr := [_, _, _, _, _, _, _]) (φ' := []) (res_tmp rfl rfl) (permI [] rfl) (fun _ h => nomatch h) ?_
            exact ⟨congrArg Value.bool (by rw [he]; unfold rEnd rGhost hasV; (try simp only [← ptAt_def, sgn_pos]); first | (simp [h26, h35, h133, h193]; done) | grind), rfl, rfl⟩
          · try simp only [decide_eq_true_eq, decide_eq_false_iff_not, Bool.not_eq_true', Bool.not_eq_false', Bool.and_eq_true, Bool.and_eq_false_iff, beq_iff_eq, bne_iff_ne, beq_eq_false_iff_ne, bne_eq_false_iff_eq, ne_eq, decide_eq_decide] at h193
            obtain ⟨⟨z0, w0_⟩, ⟨z1, w1_⟩, ⟨z2, w2_⟩⟩ := hT t (List.mem_of_getElem? ht) ((real_iff (by omega) ht).1 h193)
            have hq0 := hP (t.v0).toNat (by omega)
            have hq1 := hP (t.v1).toNat (by omega)
            have hq2 := hP (t.v2).toNat (by omega)
            refine CJ_seq ?_
            refine CJ_reg ?_
            first | refine LJ_y rfl rfl (YJ_loadL rfl tyi_3 (by repeat first | exact .head _ | apply List.Mem.tail) rfl) ?_ | refine LJ_y rfl rfl (YJ_loadFact rfl tyi_3 (by repeat first | exact .head _ | apply List.Mem.tail) rfl) ?_
            refine LJ_y rfl rfl (YJ_bin rfl rfl rfl) ?_
            refine LJ_y rfl rfl (YJ_assign rfl) ?_
            refine LJ_nil ?_
            refine QJ_then ?_
            refine CJ_cond rfl (fun h199 => ?_) (fun h199 => ?_)
            · try simp only [decide_eq_true_eq, decide_eq_false_iff_not, Bool.not_eq_true', Bool.not_eq_false', Bool.and_eq_true, Bool.and_eq_false_iff, beq_iff_eq, bne_iff_ne, beq_eq_false_iff_ne, bne_eq_false_iff_eq, ne_eq, decide_eq_decide] at h199
              refine CJ_seq ?_
              refine CJ_reg ?_
              first | refine LJ_y rfl rfl (YJ_fieldOwn rfl fld_42_0 rfl) ?_ | refine LJ_y rfl rfl (YJ_fieldAddr rfl fld_42_0) ?_
              first | refine LJ_y rfl rfl (YJ_loadL rfl tyi_3 (by repeat first | exact .head _ | apply List.Mem.tail) rfl) ?_ | refine LJ_y rfl rfl (YJ_loadFact rfl tyi_3 (by repeat first | exact .head _ | apply List.Mem.tail) rfl) ?_
              refine LJ_y rfl rfl (YJ_bin rfl rfl rfl) ?_
              refine LJ_y rfl rfl (YJ_move rfl) ?_
              refine LJ_boolC (fun h205 => ?_) (fun h205 => ?_)
              · try simp only [decide_eq_true_eq, decide_eq_false_iff_not, Bool.not_eq_true', Bool.not_eq_false', Bool.and_eq_true, Bool.and_eq_false_iff, beq_iff_eq, bne_iff_ne, beq_eq_false_iff_ne, bne_eq_false_iff_eq, ne_eq, decide_eq_decide] at h205
                first | refine LJ_y rfl rfl (YJ_fieldOwn rfl fld_42_2 rfl) ?_ | refine LJ_y rfl rfl (YJ_fieldAddr rfl fld_42_2) ?_
                first | refine LJ_y rfl rfl (YJ_loadL rfl tyi_3 (by repeat first | exact .head _ | apply List.Mem.tail) rfl) ?_ | refine LJ_y rfl rfl (YJ_loadFact rfl tyi_3 (by repeat first | exact .head _ | apply List.Mem.tail) rfl) ?_
                first | refine LJ_y rfl rfl (YJ_loadL rfl tyi_3 (by repeat first | exact .head _ | apply List.Mem.tail) rfl) ?_ | refine LJ_y rfl rfl (YJ_loadFact rfl tyi_3 (by repeat first | exact .head _ | apply List.Mem.tail) rfl) ?_
                refine LJ_y rfl rfl (YJ_bin rfl rfl rfl) ?_
                refine LJ_y rfl rfl (YJ_pickT rfl rfl) ?_
                refine LJ_y rfl rfl (YJ_move rfl) ?_
                refine LJ_boolC (fun h211 => ?_) (fun h211 => ?_)
                · try simp only [decide_eq_true_eq, decide_eq_false_iff_not, Bool.not_eq_true', Bool.not_eq_false', Bool.and_eq_true, Bool.and_eq_false_iff, beq_iff_eq, bne_iff_ne, beq_eq_false_iff_ne, bne_eq_false_iff_eq, ne_eq, decide_eq_decide] at h211
                  first | refine LJ_y rfl rfl (YJ_fieldOwn rfl fld_42_3 rfl) ?_ | refine LJ_y rfl rfl (YJ_fieldAddr rfl fld_42_3) ?_
                  first | refine LJ_y rfl rfl (YJ_loadL rfl tyi_3 (by repeat first | exact .head _ | apply List.Mem.tail) rfl) ?_ | refine LJ_y rfl rfl (YJ_loadFact rfl tyi_3 (by repeat first | exact .head _ | apply List.Mem.tail) rfl) ?_
                  refine LJ_y rfl rfl (YJ_bin rfl rfl rfl) ?_
                  refine LJ_y rfl rfl (YJ_pickT rfl rfl) ?_
                  refine LJ_y rfl rfl (YJ_move rfl) ?_
                  refine LJ_boolC (fun h216 => ?_) (fun h216 => ?_)
                  · try simp only [decide_eq_true_eq, decide_eq_false_iff_not, Bool.not_eq_true', Bool.not_eq_false', Bool.and_eq_true, Bool.and_eq_false_iff, beq_iff_eq, bne_iff_ne, beq_eq_false_iff_ne, bne_eq_false_iff_eq, ne_eq, decide_eq_decide] at h216
                    refine LJ_y rfl rfl (YJ_move rfl) ?_
                    first | refine LJ_y rfl rfl (YJ_loadL rfl tyi_3 (by repeat first | exact .head _ | apply List.Mem.tail) rfl) ?_ | refine LJ_y rfl rfl (YJ_loadFact rfl tyi_3 (by repeat first | exact .head _ | apply List.Mem.tail) rfl) ?_
                    refine LJ_call1 6 rfl rfl rfl rfl rfl rfl (has_c) (fun _ h => nomatch h) ?_
                    show LJ _ _ _ _ _ (_ :: _ :: _ :: _ :: _ :: _ :: _ :: _ :: _) _
                    refine LJ_y rfl rfl (YJ_pickT rfl rfl) ?_
                    refine LJ_y rfl rfl (YJ_assign rfl) ?_
                    refine LJ_nil ?_
                    refine QJ_then ?_
                    refine CJ_ret ?_
                    refine QJ_in_ret ?_
                    refine QJ_then_ret ?_
                    refine QJ_finM (.inl rfl) [D0] rfl (μ' := []) (μr := [_, _, _, _, _, _, _]) (φ' := []) (res_tmp rfl rfl) (permI [] rfl) (fun _ h => nomatch h) ?_
                    exact ⟨congrArg Value.bool (by rw [he]; unfold rEnd rGhost hasV; (try simp only [← ptAt_def, sgn_pos]); first | (simp [h26, h35, h133, h193, h199, h205, h211, h216]; done) | grind), rfl, rfl⟩
                  · try simp only [decide_eq_true_eq, decide_eq_false_iff_not, Bool.not_eq_true', Bool.not_eq_false', Bool.and_eq_true, Bool.and_eq_false_iff, beq_iff_eq, bne_iff_ne, beq_eq_false_iff_ne, bne_eq_false_iff_eq, ne_eq, decide_eq_decide] at h216
                    refine LJ_skip rfl rfl ?_
                    refine LJ_skip rfl rfl ?_
                    refine LJ_skip rfl rfl ?_
                    refine LJ_y rfl rfl (YJ_pickF rfl rfl) ?_
                    refine LJ_y rfl rfl (YJ_assign rfl) ?_
                    refine LJ_nil ?_
                    refine QJ_then ?_
                    refine CJ_ret ?_
                    refine QJ_in_ret ?_
                    refine QJ_then_ret ?_
                    refine QJ_finM (.inl rfl) [D0] rfl (μ' := []) (μr := [_, _, _, _, _, _, _]) (φ' := []) (res_tmp rfl rfl) (permI [] rfl) (fun _ h => nomatch h) ?_
                    exact ⟨congrArg Value.bool (by rw [he]; unfold rEnd rGhost hasV; (try simp only [← ptAt_def, sgn_pos]); first | (simp [h26, h35, h133, h193, h199, h205, h211, h216]; done) | grind), rfl, rfl⟩
                · try simp only [decide_eq_true_eq, decide_eq_false_iff_not, Bool.not_eq_true', Bool.not_eq_false', Bool.and_eq_true, Bool.and_eq_false_iff, beq_iff_eq, bne_iff_ne, beq_eq_false_iff_ne, bne_eq_false_iff_eq, ne_eq, decide_eq_decide] at h211
                  refine LJ_skip rfl rfl ?_
                  refine LJ_skip rfl rfl ?_
                  refine LJ_skip rfl rfl ?_
                  refine LJ_y rfl rfl (YJ_pickF rfl rfl) ?_
                  refine LJ_y rfl rfl (YJ_move rfl) ?_
                  refine LJ_skip rfl rfl ?_
                  refine LJ_skip rfl rfl ?_
                  refine LJ_skip rfl rfl ?_
                  refine LJ_y rfl rfl (YJ_pickF rfl rfl) ?_
                  refine LJ_y rfl rfl (YJ_assign rfl) ?_
                  refine LJ_nil ?_
                  refine QJ_then ?_
                  refine CJ_ret ?_
                  refine QJ_in_ret ?_
                  refine QJ_then_ret ?_
                  refine QJ_finM (.inl rfl) [D0] rfl (μ' := []) (μr := [_, _, _, _, _, _, _]) (φ' := []) (res_tmp rfl rfl) (permI [] rfl) (fun _ h => nomatch h) ?_
                  exact ⟨congrArg Value.bool (by rw [he]; unfold rEnd rGhost hasV; (try simp only [← ptAt_def, sgn_pos]); first | (simp [h26, h35, h133, h193, h199, h205, h211]; done) | grind), rfl, rfl⟩
              · try simp only [decide_eq_true_eq, decide_eq_false_iff_not, Bool.not_eq_true', Bool.not_eq_false', Bool.and_eq_true, Bool.and_eq_false_iff, beq_iff_eq, bne_iff_ne, beq_eq_false_iff_ne, bne_eq_false_iff_eq, ne_eq, decide_eq_decide] at h205
                refine LJ_skip rfl rfl ?_
                refine LJ_skip rfl rfl ?_
                refine LJ_skip rfl rfl ?_
                refine LJ_skip rfl rfl ?_
                refine LJ_y rfl rfl (YJ_pickF rfl rfl) ?_
                refine LJ_y rfl rfl (YJ_move rfl) ?_
                refine LJ_skip rfl rfl ?_
                refine LJ_skip rfl rfl ?_
                refine LJ_skip rfl rfl ?_
                refine LJ_y rfl rfl (YJ_pickF rfl rfl) ?_
                refine LJ_y rfl rfl (YJ_move rfl) ?_
                refine LJ_skip rfl rfl ?_
                refine LJ_skip rfl rfl ?_
                refine LJ_skip rfl rfl ?_
                refine LJ_y rfl rfl (YJ_pickF rfl rfl) ?_
                refine LJ_y rfl rfl (YJ_assign rfl) ?_
                refine LJ_nil ?_
                refine QJ_then ?_
                refine CJ_ret ?_
                refine QJ_in_ret ?_
                refine QJ_then_ret ?_
                refine QJ_finM (.inl rfl) [D0] rfl (μ' := []) (μr := [_, _, _, _, _, _, _]) (φ' := []) (res_tmp rfl rfl) (permI [] rfl) (fun _ h => nomatch h) ?_
                exact ⟨congrArg Value.bool (by rw [he]; unfold rEnd rGhost hasV; (try simp only [← ptAt_def, sgn_pos]); first | (simp [h26, h35, h133, h193, h199, h205]; done) | grind), rfl, rfl⟩
            · try simp only [decide_eq_true_eq, decide_eq_false_iff_not, Bool.not_eq_true', Bool.not_eq_false', Bool.and_eq_true, Bool.and_eq_false_iff, beq_iff_eq, bne_iff_ne, beq_eq_false_iff_ne, bne_eq_false_iff_eq, ne_eq, decide_eq_decide] at h199
              refine CJ_seq ?_
              refine CJ_reg ?_
              first | refine LJ_y rfl rfl (YJ_loadN (vs := [_, _]) rfl tyi_46 (by repeat first | exact .head _ | apply List.Mem.tail) rfl rfl) ?_ | refine LJ_y rfl rfl (YJ_loadFactN (vs := [_, _]) rfl tyi_46 (by repeat first | exact .head _ | apply List.Mem.tail) rfl rfl) ?_
              refine LJ_y rfl rfl (YJ_build1 (cs := [_, _]) lay_46 rfl rfl rfl) ?_
              refine LJ_y rfl rfl (YJ_eqs rfl rfl (fun _ => eqs_neq_46 ..)) ?_
              refine LJ_y rfl rfl (YJ_assign rfl) ?_
              refine LJ_nil ?_
              refine QJ_then ?_
              refine CJ_cond rfl (fun h221 => ?_) (fun h221 => ?_)
              · try simp only [decide_eq_true_eq, decide_eq_false_iff_not, Bool.not_eq_true', Bool.not_eq_false', Bool.and_eq_true, Bool.and_eq_false_iff, beq_iff_eq, bne_iff_ne, beq_eq_false_iff_ne, bne_eq_false_iff_eq, ne_eq, decide_eq_decide] at h221
                refine CJ_seq ?_
                refine CJ_reg ?_
                first | refine LJ_y rfl rfl (YJ_fieldOwn rfl fld_42_0 rfl) ?_ | refine LJ_y rfl rfl (YJ_fieldAddr rfl fld_42_0) ?_
                first | refine LJ_y rfl rfl (YJ_loadL rfl tyi_3 (by repeat first | exact .head _ | apply List.Mem.tail) rfl) ?_ | refine LJ_y rfl rfl (YJ_loadFact rfl tyi_3 (by repeat first | exact .head _ | apply List.Mem.tail) rfl) ?_
                refine LJ_y rfl rfl (YJ_bin rfl rfl rfl) ?_
                refine LJ_y rfl rfl (YJ_move rfl) ?_
                refine LJ_boolC (fun h228 => ?_) (fun h228 => ?_)
                · try simp only [decide_eq_true_eq, decide_eq_false_iff_not, Bool.not_eq_true', Bool.not_eq_false', Bool.and_eq_true, Bool.and_eq_false_iff, beq_iff_eq, bne_iff_ne, beq_eq_false_iff_ne, bne_eq_false_iff_eq, ne_eq, decide_eq_decide] at h228
                  first | refine LJ_y rfl rfl (YJ_fieldOwn rfl fld_42_2 rfl) ?_ | refine LJ_y rfl rfl (YJ_fieldAddr rfl fld_42_2) ?_
                  first | refine LJ_y rfl rfl (YJ_loadL rfl tyi_3 (by repeat first | exact .head _ | apply List.Mem.tail) rfl) ?_ | refine LJ_y rfl rfl (YJ_loadFact rfl tyi_3 (by repeat first | exact .head _ | apply List.Mem.tail) rfl) ?_
                  first | refine LJ_y rfl rfl (YJ_fieldOwn rfl fld_42_3 rfl) ?_ | refine LJ_y rfl rfl (YJ_fieldAddr rfl fld_42_3) ?_
                  first | refine LJ_y rfl rfl (YJ_loadL rfl tyi_3 (by repeat first | exact .head _ | apply List.Mem.tail) rfl) ?_ | refine LJ_y rfl rfl (YJ_loadFact rfl tyi_3 (by repeat first | exact .head _ | apply List.Mem.tail) rfl) ?_
                  refine LJ_y rfl rfl (YJ_build1 (cs := [_, _]) lay_46 rfl rfl rfl) ?_
                  first | refine LJ_y rfl rfl (YJ_loadN (vs := [_, _]) rfl tyi_46 (by repeat first | exact .head _ | apply List.Mem.tail) rfl rfl) ?_ | refine LJ_y rfl rfl (YJ_loadFactN (vs := [_, _]) rfl tyi_46 (by repeat first | exact .head _ | apply List.Mem.tail) rfl rfl) ?_
                  refine LJ_y rfl rfl (YJ_eqs rfl rfl (fun _ => eqs_eql_46 ..)) ?_
                  refine LJ_y rfl rfl (YJ_pickT rfl rfl) ?_
                  refine LJ_y rfl rfl (YJ_move rfl) ?_
                  refine LJ_boolC (fun h237 => ?_) (fun h237 => ?_)
                  · try simp only [decide_eq_true_eq, decide_eq_false_iff_not, Bool.not_eq_true', Bool.not_eq_false', Bool.and_eq_true, Bool.and_eq_false_iff, beq_iff_eq, bne_iff_ne, beq_eq_false_iff_ne, bne_eq_false_iff_eq, ne_eq, decide_eq_decide] at h237
                    refine LJ_y rfl rfl (YJ_move rfl) ?_
                    first | refine LJ_y rfl rfl (YJ_fieldOwn rfl fld_42_2 rfl) ?_ | refine LJ_y rfl rfl (YJ_fieldAddr rfl fld_42_2) ?_
                    first | refine LJ_y rfl rfl (YJ_loadL rfl tyi_3 (by repeat first | exact .head _ | apply List.Mem.tail) rfl) ?_ | refine LJ_y rfl rfl (YJ_loadFact rfl tyi_3 (by repeat first | exact .head _ | apply List.Mem.tail) rfl) ?_
                    refine LJ_call1 6 rfl rfl rfl rfl rfl rfl (has_c) (fun _ h => nomatch h) ?_
                    show LJ _ _ _ _ _ (_ :: _ :: _ :: _ :: _ :: _ :: _ :: _ :: _) _
                    refine LJ_y rfl rfl (YJ_pickT rfl rfl) ?_
                    refine LJ_y rfl rfl (YJ_move rfl) ?_
                    refine LJ_boolC (fun h243 => ?_) (fun h243 => ?_)
                    · try simp only [decide_eq_true_eq, decide_eq_false_iff_not, Bool.not_eq_true', Bool.not_eq_false', Bool.and_eq_true, Bool.and_eq_false_iff, beq_iff_eq, bne_iff_ne, beq_eq_false_iff_ne, bne_eq_false_iff_eq, ne_eq, decide_eq_decide] at h243
                      unfold hasV at h243
                      refine LJ_y rfl rfl (YJ_move rfl) ?_
                      first | refine LJ_y rfl rfl (YJ_fieldOwn rfl fld_42_3 rfl) ?_ | refine LJ_y rfl rfl (YJ_fieldAddr rfl fld_42_3) ?_
                      first | refine LJ_y rfl rfl (YJ_loadL rfl tyi_3 (by repeat first | exact .head _ | apply List.Mem.tail) rfl) ?_ | refine LJ_y rfl rfl (YJ_loadFact rfl tyi_3 (by repeat first | exact .head _ | apply List.Mem.tail) rfl) ?_
                      refine LJ_call1 6 rfl rfl rfl rfl rfl rfl (has_c) (fun _ h => nomatch h) ?_
                      show LJ _ _ _ _ _ (_ :: _ :: _ :: _ :: _ :: _ :: _ :: _ :: _) _
                      refine LJ_y rfl rfl (YJ_pickT rfl rfl) ?_
                      refine LJ_y rfl rfl (YJ_assign rfl) ?_
                      refine LJ_nil ?_
                      refine QJ_then ?_
                      refine CJ_ret ?_
                      refine QJ_in_ret ?_
                      refine QJ_then_ret ?_
                      refine QJ_finM (.inl rfl) [D0] rfl (μ' := []) (μr := [_, _, _, _, _, _, _]) (φ' := []) (res_tmp rfl rfl) (permI [] rfl) (fun _ h => nomatch h) ?_
                      exact ⟨congrArg Value.bool (by rw [he]; unfold rEnd rGhost hasV; (try simp only [← ptAt_def, sgn_pos]); first | (simp [h26, h35, h133, h193, h199, h221, h228, h237, h243]; done) | grind), rfl, rfl⟩
                    · try simp only [decide_eq_true_eq, decide_eq_false_iff_not, Bool.not_eq_true', Bool.not_eq_false', Bool.and_eq_true, Bool.and_eq_false_iff, beq_iff_eq, bne_iff_ne, beq_eq_false_iff_ne, bne_eq_false_iff_eq, ne_eq, decide_eq_decide] at h243
                      unfold hasV at h243
                      refine LJ_skip rfl rfl ?_
                      refine LJ_skip rfl rfl ?_
                      refine LJ_skip rfl rfl ?_
                      refine LJ_skip rfl rfl ?_
                      refine LJ_y rfl rfl (YJ_pickF rfl rfl) ?_
                      refine LJ_y rfl rfl (YJ_assign rfl) ?_
                      refine LJ_nil ?_
                      refine QJ_then ?_
                      refine CJ_ret ?_
                      refine QJ_in_ret ?_
                      refine QJ_then_ret ?_
                      refine QJ_finM (.inl rfl) [D0] rfl (μ' := []) (μr := [_, _, _, _, _, _, _]) (φ' := []) (res_tmp rfl rfl) (permI [] rfl) (fun _ h => nomatch h) ?_
                      exact ⟨congrArg Value.bool (by rw [he]; unfold rEnd rGhost hasV; (try simp only [← ptAt_def, sgn_pos]); first | (simp [h26, h35, h133, h193, h199, h221, h228, h237, h243]; done) | grind), rfl, rfl⟩
                  · try simp only [decide_eq_true_eq, decide_eq_false_iff_not, Bool.not_eq_true', Bool.not_eq_false', Bool.and_eq_true, Bool.and_eq_false_iff, beq_iff_eq, bne_iff_ne, beq_eq_false_iff_ne, bne_eq_false_iff_eq, ne_eq, decide_eq_decide] at h237
                    refine LJ_skip rfl rfl ?_
                    refine LJ_skip rfl rfl ?_
                    refine LJ_skip rfl rfl ?_
                    refine LJ_skip rfl rfl ?_
                    refine LJ_y rfl rfl (YJ_pickF rfl rfl) ?_
                    refine LJ_y rfl rfl (YJ_move rfl) ?_
                    refine LJ_skip rfl rfl ?_
                    refine LJ_skip rfl rfl ?_
                    refine LJ_skip rfl rfl ?_
                    refine LJ_skip rfl rfl ?_
                    refine LJ_y rfl rfl (YJ_pickF rfl rfl) ?_
                    refine LJ_y rfl rfl (YJ_assign rfl) ?_
                    refine LJ_nil ?_
                    refine QJ_then ?_
                    refine CJ_ret ?_
                    refine QJ_in_ret ?_
                    refine QJ_then_ret ?_
                    refine QJ_finM (.inl rfl) [D0] rfl (μ' := []) (μr := [_, _, _, _, _, _, _]) (φ' := []) (res_tmp rfl rfl) (permI [] rfl) (fun _ h => nomatch h) ?_
                    exact ⟨congrArg Value.bool (by rw [he]; unfold rEnd rGhost hasV; (try simp only [← ptAt_def, sgn_pos]); first | (simp [h26, h35, h133, h193, h199, h221, h228, h237]; done) | grind), rfl, rfl⟩
                · try simp only [decide_eq_true_eq, decide_eq_false_iff_not, Bool.not_eq_true', Bool.not_eq_false', Bool.and_eq_true, Bool.and_eq_false_iff, beq_iff_eq, bne_iff_ne, beq_eq_false_iff_ne, bne_eq_false_iff_eq, ne_eq, decide_eq_decide] at h228
                  refine LJ_skip rfl rfl ?_
                  refine LJ_skip rfl rfl ?_
                  refine LJ_skip rfl rfl ?_
                  refine LJ_skip rfl rfl ?_
                  refine LJ_skip rfl rfl ?_
                  refine LJ_skip rfl rfl ?_
                  refine LJ_skip rfl rfl ?_
                  refine LJ_y rfl rfl (YJ_pickF rfl rfl) ?_
                  refine LJ_y rfl rfl (YJ_move rfl) ?_
                  refine LJ_skip rfl rfl ?_
                  refine LJ_skip rfl rfl ?_
                  refine LJ_skip rfl rfl ?_
                  refine LJ_skip rfl rfl ?_
                  refine LJ_y rfl rfl (YJ_pickF rfl rfl) ?_
                  refine LJ_y rfl rfl (YJ_move rfl) ?_
                  refine LJ_skip rfl rfl ?_
                  refine LJ_skip rfl rfl ?_
                  refine LJ_skip rfl rfl ?_
                  refine LJ_skip rfl rfl ?_
                  refine LJ_y rfl rfl (YJ_pickF rfl rfl) ?_
                  refine LJ_y rfl rfl (YJ_assign rfl) ?_
                  refine LJ_nil ?_
                  refine QJ_then ?_
                  refine CJ_ret ?_
                  refine QJ_in_ret ?_
                  refine QJ_then_ret ?_
                  refine QJ_finM (.inl rfl) [D0] rfl (μ' := []) (μr := [_, _, _, _, _, _, _]) (φ' := []) (res_tmp rfl rfl) (permI [] rfl) (fun _ h => nomatch h) ?_
                  exact ⟨congrArg Value.bool (by rw [he]; unfold rEnd rGhost hasV; (try simp only [← ptAt_def, sgn_pos]); first | (simp [h26, h35, h133, h193, h199, h221, h228]; done) | grind), rfl, rfl⟩
              · try simp only [decide_eq_true_eq, decide_eq_false_iff_not, Bool.not_eq_true', Bool.not_eq_false', Bool.and_eq_true, Bool.and_eq_false_iff, beq_iff_eq, bne_iff_ne, beq_eq_false_iff_ne, bne_eq_false_iff_eq, ne_eq, decide_eq_decide] at h221
                refine CJ_skip ?_
                refine QJ_in_normal ?_
                refine QJ_then ?_
                refine CJ_seq ?_
                refine CJ_regD mix (by kernel_rfl) (fun _ _ _ _ _ h => h) _ _ (fun _ h => h) (fun _ h => h) ?_
                first | refine AJ_y 0 rfl (by kernel_rfl) (by kernel_rfl) rfl rfl (YJ_fieldOwn rfl fld_42_0 rfl) ?_ | refine AJ_y 0 rfl (by kernel_rfl) (by kernel_rfl) rfl rfl (YJ_fieldAddr rfl fld_42_0) ?_
                first | refine AJ_y 1 rfl (by kernel_rfl) (by kernel_rfl) rfl rfl (YJ_loadL rfl tyi_3 (by repeat first | exact .head _ | apply List.Mem.tail) rfl) ?_ | refine AJ_y 1 rfl (by kernel_rfl) (by kernel_rfl) rfl rfl (YJ_loadFact rfl tyi_3 (by repeat first | exact .head _ | apply List.Mem.tail) rfl) ?_
                refine AJ_y 2 rfl (by kernel_rfl) (by kernel_rfl) rfl rfl (YJ_bin rfl rfl rfl) ?_
                refine AJ_y 3 rfl (by kernel_rfl) (by kernel_rfl) rfl rfl (YJ_move rfl) ?_
                refine AJ_boolC (fun h252 => ?_) (fun h252 => ?_)
                · try simp only [decide_eq_true_eq, decide_eq_false_iff_not, Bool.not_eq_true', Bool.not_eq_false', Bool.and_eq_true, Bool.and_eq_false_iff, beq_iff_eq, bne_iff_ne, beq_eq_false_iff_ne, bne_eq_false_iff_eq, ne_eq, decide_eq_decide] at h252
                  first | refine AJ_y 4 rfl (by kernel_rfl) (by kernel_rfl) rfl rfl (YJ_fieldOwn rfl fld_42_2 rfl) ?_ | refine AJ_y 4 rfl (by kernel_rfl) (by kernel_rfl) rfl rfl (YJ_fieldAddr rfl fld_42_2) ?_
                  first | refine AJ_y 5 rfl (by kernel_rfl) (by kernel_rfl) rfl rfl (YJ_loadL rfl tyi_3 (by repeat first | exact .head _ | apply List.Mem.tail) rfl) ?_ | refine AJ_y 5 rfl (by kernel_rfl) (by kernel_rfl) rfl rfl (YJ_loadFact rfl tyi_3 (by repeat first | exact .head _ | apply List.Mem.tail) rfl) ?_
                  refine AJ_y 6 rfl (by kernel_rfl) (by kernel_rfl) rfl rfl (YJ_bin rfl rfl rfl) ?_
                  refine AJ_y 7 rfl (by kernel_rfl) (by kernel_rfl) rfl rfl (YJ_pickT rfl rfl) ?_
                  refine AJ_y 8 rfl (by kernel_rfl) (by kernel_rfl) rfl rfl (YJ_move rfl) ?_
                  refine AJ_boolC (fun h257 => ?_) (fun h257 => ?_)
                  · try simp only [decide_eq_true_eq, decide_eq_false_iff_not, Bool.not_eq_true', Bool.not_eq_false', Bool.and_eq_true, Bool.and_eq_false_iff, beq_iff_eq, bne_iff_ne, beq_eq_false_iff_ne, bne_eq_false_iff_eq, ne_eq, decide_eq_decide] at h257
                    first | refine AJ_y 9 rfl (by kernel_rfl) (by kernel_rfl) rfl rfl (YJ_fieldOwn rfl fld_42_3 rfl) ?_ | refine AJ_y 9 rfl (by kernel_rfl) (by kernel_rfl) rfl rfl (YJ_fieldAddr rfl fld_42_3) ?_
                    first | refine AJ_y 10 rfl (by kernel_rfl) (by kernel_rfl) rfl rfl (YJ_loadL rfl tyi_3 (by repeat first | exact .head _ | apply List.Mem.tail) rfl) ?_ | refine AJ_y 10 rfl (by kernel_rfl) (by kernel_rfl) rfl rfl (YJ_loadFact rfl tyi_3 (by repeat first | exact .head _ | apply List.Mem.tail) rfl) ?_
                    refine AJ_y 11 rfl (by kernel_rfl) (by kernel_rfl) rfl rfl (YJ_bin rfl rfl rfl) ?_
                    refine AJ_y 12 rfl (by kernel_rfl) (by kernel_rfl) rfl rfl (YJ_pickT rfl rfl) ?_
                    refine AJ_y 13 rfl (by kernel_rfl) (by kernel_rfl) rfl rfl (YJ_move rfl) ?_
                    refine AJ_boolC (fun h262 => ?_) (fun h262 => ?_)
                    · try simp only [decide_eq_true_eq, decide_eq_false_iff_not, Bool.not_eq_true', Bool.not_eq_false', Bool.and_eq_true, Bool.and_eq_false_iff, beq_iff_eq, bne_iff_ne, beq_eq_false_iff_ne, bne_eq_false_iff_eq, ne_eq, decide_eq_decide] at h262
                      first | refine AJ_y 14 rfl (by kernel_rfl) (by kernel_rfl) rfl rfl (YJ_loadL rfl tyi_28 (by repeat first | exact .head _ | apply List.Mem.tail) rfl) ?_ | refine AJ_y 14 rfl (by kernel_rfl) (by kernel_rfl) rfl rfl (YJ_loadFact rfl tyi_28 (by repeat first | exact .head _ | apply List.Mem.tail) rfl) ?_
                      refine AJ_y 15 rfl (by kernel_rfl) (by kernel_rfl) rfl rfl (YJ_nilCheck rfl) ?_
                      first | refine AJ_y 16 rfl (by kernel_rfl) (by kernel_rfl) rfl rfl (YJ_fieldOwn rfl fld_57_0 rfl) ?_ | refine AJ_y 16 rfl (by kernel_rfl) (by kernel_rfl) rfl rfl (YJ_fieldAddr rfl fld_57_0) ?_
                      refine AJ_y 17 rfl (by kernel_rfl) (by kernel_rfl) rfl rfl (YJ_loadFactP (A := some ⟨B, 0, none⟩) (j := 0) rfl rfl tyi_26 (by repeat first | exact .head _ | apply List.Mem.tail) rfl) ?_
                      first | refine AJ_y 18 rfl (by kernel_rfl) (by kernel_rfl) rfl rfl (YJ_fieldOwn rfl fld_37_0 rfl) ?_ | refine AJ_y 18 rfl (by kernel_rfl) (by kernel_rfl) rfl rfl (YJ_fieldAddr rfl fld_37_0) ?_
                      first | refine AJ_y 19 rfl (by kernel_rfl) (by kernel_rfl) rfl rfl (YJ_ixArr rfl rfl arrt_34 (by omega) (by omega) rfl) ?_ | refine AJ_y 19 rfl (by kernel_rfl) (by kernel_rfl) rfl rfl (YJ_ixArrP rfl rfl arrt_34 (by omega) (by omega)) ?_
                      first | refine AJ_y 20 rfl (by kernel_rfl) (by kernel_rfl) rfl rfl (YJ_loadL rfl tyi_3 (by repeat first | exact .head _ | apply List.Mem.tail) rfl) ?_ | refine AJ_y 20 rfl (by kernel_rfl) (by kernel_rfl) rfl rfl (YJ_loadFact rfl tyi_3 (by repeat first | exact .head _ | apply List.Mem.tail) rfl) ?_
                      refine AJ_y 21 rfl (by kernel_rfl) (by kernel_rfl) rfl rfl (YJ_ixFact rfl rfl elt_26 (by repeat first | exact .head _ | apply List.Mem.tail) (by decide) (by omega) (by omega) (by omega)) ?_
                      refine AJ_y 22 rfl (by kernel_rfl) (by kernel_rfl) rfl rfl (YJ_loadFactN (vs := [_, _]) (xs := ptCells pts) rfl tyi_23 (by repeat first | exact .head _ | apply List.Mem.tail) (ptCells_get (i := (t.v0).toNat) (by omega)) rfl) ?_
                      first | refine AJ_y 23 rfl (by kernel_rfl) (by kernel_rfl) rfl rfl (YJ_loadL rfl tyi_28 (by repeat first | exact .head _ | apply List.Mem.tail) rfl) ?_ | refine AJ_y 23 rfl (by kernel_rfl) (by kernel_rfl) rfl rfl (YJ_loadFact rfl tyi_28 (by repeat first | exact .head _ | apply List.Mem.tail) rfl) ?_
                      refine AJ_y 24 rfl (by kernel_rfl) (by kernel_rfl) rfl rfl (YJ_nilCheck rfl) ?_
                      first | refine AJ_y 25 rfl (by kernel_rfl) (by kernel_rfl) rfl rfl (YJ_fieldOwn rfl fld_57_0 rfl) ?_ | refine AJ_y 25 rfl (by kernel_rfl) (by kernel_rfl) rfl rfl (YJ_fieldAddr rfl fld_57_0) ?_
                      refine AJ_y 26 rfl (by kernel_rfl) (by kernel_rfl) rfl rfl (YJ_loadFactP (A := some ⟨B, 0, none⟩) (j := 0) rfl rfl tyi_26 (by repeat first | exact .head _ | apply List.Mem.tail) rfl) ?_
                      first | refine AJ_y 27 rfl (by kernel_rfl) (by kernel_rfl) rfl rfl (YJ_fieldOwn rfl fld_37_0 rfl) ?_ | refine AJ_y 27 rfl (by kernel_rfl) (by kernel_rfl) rfl rfl (YJ_fieldAddr rfl fld_37_0) ?_
                      first | refine AJ_y 28 rfl (by kernel_rfl) (by kernel_rfl) rfl rfl (YJ_ixArr rfl rfl arrt_34 (by omega) (by omega) rfl) ?_ | refine AJ_y 28 rfl (by kernel_rfl) (by kernel_rfl) rfl rfl (YJ_ixArrP rfl rfl arrt_34 (by omega) (by omega)) ?_
                      first | refine AJ_y 29 rfl (by kernel_rfl) (by kernel_rfl) rfl rfl (YJ_loadL rfl tyi_3 (by repeat first | exact .head _ | apply List.Mem.tail) rfl) ?_ | refine AJ_y 29 rfl (by kernel_rfl) (by kernel_rfl) rfl rfl (YJ_loadFact rfl tyi_3 (by repeat first | exact .head _ | apply List.Mem.tail) rfl) ?_
                      refine AJ_y 30 rfl (by kernel_rfl) (by kernel_rfl) rfl rfl (YJ_ixFact rfl rfl elt_26 (by repeat first | exact .head _ | apply List.Mem.tail) (by decide) (by omega) (by omega) (by omega)) ?_
                      refine AJ_y 31 rfl (by kernel_rfl) (by kernel_rfl) rfl rfl (YJ_loadFactN (vs := [_, _]) (xs := ptCells pts) rfl tyi_23 (by repeat first | exact .head _ | apply List.Mem.tail) (ptCells_get (i := (t.v1).toNat) (by omega)) rfl) ?_
                      first | refine AJ_y 32 rfl (by kernel_rfl) (by kernel_rfl) rfl rfl (YJ_loadN (vs := [_, _]) rfl tyi_23 (by repeat first | exact .head _ | apply List.Mem.tail) rfl rfl) ?_ | refine AJ_y 32 rfl (by kernel_rfl) (by kernel_rfl) rfl rfl (YJ_loadFactN (vs := [_, _]) rfl tyi_23 (by repeat first | exact .head _ | apply List.Mem.tail) rfl rfl) ?_
                      refine AJ_call0 33 rfl (by kernel_rfl) rfl rfl rfl rfl rfl (orient_c hq0 hq1 hp) (AllIn.sub (by first | exact trivial | exact And.intro (by repeat first | exact .head _ | apply List.Mem.tail) trivial | exact And.intro (by repeat first | exact .head _ | apply List.Mem.tail) (And.intro (by repeat first | exact .head _ | apply List.Mem.tail) trivial))) ?_
                      refine AJ_y 34 rfl (by kernel_rfl) (by kernel_rfl) rfl rfl (YJ_bin rfl rfl rfl) ?_
                      refine AJ_y 35 rfl (by kernel_rfl) (by kernel_rfl) rfl rfl (YJ_pickT rfl rfl) ?_
                      refine AJ_y 36 rfl (by kernel_rfl) (by kernel_rfl) rfl rfl (YJ_move rfl) ?_
                      refine AJ_boolC (fun h285 => ?_) (fun h285 => ?_)
                      · try simp only [decide_eq_true_eq, decide_eq_false_iff_not, Bool.not_eq_true', Bool.not_eq_false', Bool.and_eq_true, Bool.and_eq_false_iff, beq_iff_eq, bne_iff_ne, beq_eq_false_iff_ne, bne_eq_false_iff_eq, ne_eq, decide_eq_decide] at h285
                        try simp only [← ptAt_def, sgn_pos] at h285
                        first | refine AJ_y 37 rfl (by kernel_rfl) (by kernel_rfl) rfl rfl (YJ_loadL rfl tyi_28 (by repeat first | exact .head _ | apply List.Mem.tail) rfl) ?_ | refine AJ_y 37 rfl (by kernel_rfl) (by kernel_rfl) rfl rfl (YJ_loadFact rfl tyi_28 (by repeat first | exact .head _ | apply List.Mem.tail) rfl) ?_
                        refine AJ_y 38 rfl (by kernel_rfl) (by kernel_rfl) rfl rfl (YJ_nilCheck rfl) ?_
                        first | refine AJ_y 39 rfl (by kernel_rfl) (by kernel_rfl) rfl rfl (YJ_fieldOwn rfl fld_57_0 rfl) ?_ | refine AJ_y 39 rfl (by kernel_rfl) (by kernel_rfl) rfl rfl (YJ_fieldAddr rfl fld_57_0) ?_
                        refine AJ_y 40 rfl (by kernel_rfl) (by kernel_rfl) rfl rfl (YJ_loadFactP (A := some ⟨B, 0, none⟩) (j := 0) rfl rfl tyi_26 (by repeat first | exact .head _ | apply List.Mem.tail) rfl) ?_
                        first | refine AJ_y 41 rfl (by kernel_rfl) (by kernel_rfl) rfl rfl (YJ_fieldOwn rfl fld_37_0 rfl) ?_ | refine AJ_y 41 rfl (by kernel_rfl) (by kernel_rfl) rfl rfl (YJ_fieldAddr rfl fld_37_0) ?_
                        first | refine AJ_y 42 rfl (by kernel_rfl) (by kernel_rfl) rfl rfl (YJ_ixArr rfl rfl arrt_34 (by omega) (by omega) rfl) ?_ | refine AJ_y 42 rfl (by kernel_rfl) (by kernel_rfl) rfl rfl (YJ_ixArrP rfl rfl arrt_34 (by omega) (by omega)) ?_
                        first | refine AJ_y 43 rfl (by kernel_rfl) (by kernel_rfl) rfl rfl (YJ_loadL rfl tyi_3 (by repeat first | exact .head _ | apply List.Mem.tail) rfl) ?_ | refine AJ_y 43 rfl (by kernel_rfl) (by kernel_rfl) rfl rfl (YJ_loadFact rfl tyi_3 (by repeat first | exact .head _ | apply List.Mem.tail) rfl) ?_
                        refine AJ_y 44 rfl (by kernel_rfl) (by kernel_rfl) rfl rfl (YJ_ixFact rfl rfl elt_26 (by repeat first | exact .head _ | apply List.Mem.tail) (by decide) (by omega) (by omega) (by omega)) ?_
                        refine AJ_y 45 rfl (by kernel_rfl) (by kernel_rfl) rfl rfl (YJ_loadFactN (vs := [_, _]) (xs := ptCells pts) rfl tyi_23 (by repeat first | exact .head _ | apply List.Mem.tail) (ptCells_get (i := (t.v1).toNat) (by omega)) rfl) ?_
                        first | refine AJ_y 46 rfl (by kernel_rfl) (by kernel_rfl) rfl rfl (YJ_loadL rfl tyi_28 (by repeat first | exact .head _ | apply List.Mem.tail) rfl) ?_ | refine AJ_y 46 rfl (by kernel_rfl) (by kernel_rfl) rfl rfl (YJ_loadFact rfl tyi_28 (by repeat first | exact .head _ | apply List.Mem.tail) rfl) ?_
                        refine AJ_y 47 rfl (by kernel_rfl) (by kernel_rfl) rfl rfl (YJ_nilCheck rfl) ?_
                        first | refine AJ_y 48 rfl (by kernel_rfl) (by kernel_rfl) rfl rfl (YJ_fieldOwn rfl fld_57_0 rfl) ?_ | refine AJ_y 48 rfl (by kernel_rfl) (by kernel_rfl) rfl rfl (YJ_fieldAddr rfl fld_57_0) ?_
                        refine AJ_y 49 rfl (by kernel_rfl) (by kernel_rfl) rfl rfl (YJ_loadFactP (A := some ⟨B, 0, none⟩) (j := 0) rfl rfl tyi_26 (by repeat first | exact .head _ | apply List.Mem.tail) rfl) ?_
                        first | refine AJ_y 50 rfl (by kernel_rfl) (by kernel_rfl) rfl rfl (YJ_fieldOwn rfl fld_37_0 rfl) ?_ | refine AJ_y 50 rfl (by kernel_rfl) (by kernel_rfl) rfl rfl (YJ_fieldAddr rfl fld_37_0) ?_
                        first | refine AJ_y 51 rfl (by kernel_rfl) (by kernel_rfl) rfl rfl (YJ_ixArr rfl rfl arrt_34 (by omega) (by omega) rfl) ?_ | refine AJ_y 51 rfl (by kernel_rfl) (by kernel_rfl) rfl rfl (YJ_ixArrP rfl rfl arrt_34 (by omega) (by omega)) ?_
                        first | refine AJ_y 52 rfl (by kernel_rfl) (by kernel_rfl) rfl rfl (YJ_loadL rfl tyi_3 (by repeat first | exact .head _ | apply List.Mem.tail) rfl) ?_ | refine AJ_y 52 rfl (by kernel_rfl) (by kernel_rfl) rfl rfl (YJ_loadFact rfl tyi_3 (by repeat first | exact .head _ | apply List.Mem.tail) rfl) ?_
                        refine AJ_y 53 rfl (by kernel_rfl) (by kernel_rfl) rfl rfl (YJ_ixFact rfl rfl elt_26 (by repeat first | exact .head _ | apply List.Mem.tail) (by decide) (by omega) (by omega) (by omega)) ?_
                        refine AJ_y 54 rfl (by kernel_rfl) (by kernel_rfl) rfl rfl (YJ_loadFactN (vs := [_, _]) (xs := ptCells pts) rfl tyi_23 (by repeat first | exact .head _ | apply List.Mem.tail) (ptCells_get (i := (t.v2).toNat) (by omega)) rfl) ?_
                        first | refine AJ_y 55 rfl (by kernel_rfl) (by kernel_rfl) rfl rfl (YJ_loadN (vs := [_, _]) rfl tyi_23 (by repeat first | exact .head _ | apply List.Mem.tail) rfl rfl) ?_ | refine AJ_y 55 rfl (by kernel_rfl) (by kernel_rfl) rfl rfl (YJ_loadFactN (vs := [_, _]) rfl tyi_23 (by repeat first | exact .head _ | apply List.Mem.tail) rfl rfl) ?_
                        refine AJ_call0 56 rfl (by kernel_rfl) rfl rfl rfl rfl rfl (orient_c hq1 hq2 hp) (AllIn.sub (by first | exact trivial | exact And.intro (by repeat first | exact .head _ | apply List.Mem.tail) trivial | exact And.intro (by repeat first | exact .head _ | apply List.Mem.tail) (And.intro (by repeat first | exact .head _ | apply List.Mem.tail) trivial))) ?_
                        refine AJ_y 57 rfl (by kernel_rfl) (by kernel_rfl) rfl rfl (YJ_bin rfl rfl rfl) ?_
                        refine AJ_y 58 rfl (by kernel_rfl) (by kernel_rfl) rfl rfl (YJ_pickT rfl rfl) ?_
                        refine AJ_y 59 rfl (by kernel_rfl) (by kernel_rfl) rfl rfl (YJ_move rfl) ?_
                        refine AJ_boolC (fun h308 => ?_) (fun h308 => ?_)
                        · try simp only [decide_eq_true_eq, decide_eq_false_iff_not, Bool.not_eq_true', Bool.not_eq_false', Bool.and_eq_true, Bool.and_eq_false_iff, beq_iff_eq, bne_iff_ne, beq_eq_false_iff_ne, bne_eq_false_iff_eq, ne_eq, decide_eq_decide] at h308
                          try simp only [← ptAt_def, sgn_pos] at h308
                          first | refine AJ_y 60 rfl (by kernel_rfl) (by kernel_rfl) rfl rfl (YJ_loadL rfl tyi_28 (by repeat first | exact .head _ | apply List.Mem.tail) rfl) ?_ | refine AJ_y 60 rfl (by kernel_rfl) (by kernel_rfl) rfl rfl (YJ_loadFact rfl tyi_28 (by repeat first | exact .head _ | apply List.Mem.tail) rfl) ?_
                          refine AJ_y 61 rfl (by kernel_rfl) (by kernel_rfl) rfl rfl (YJ_nilCheck rfl) ?_
                          first | refine AJ_y 62 rfl (by kernel_rfl) (by kernel_rfl) rfl rfl (YJ_fieldOwn rfl fld_57_0 rfl) ?_ | refine AJ_y 62 rfl (by kernel_rfl) (by kernel_rfl) rfl rfl (YJ_fieldAddr rfl fld_57_0) ?_
                          refine AJ_y 63 rfl (by kernel_rfl) (by kernel_rfl) rfl rfl (YJ_loadFactP (A := some ⟨B, 0, none⟩) (j := 0) rfl rfl tyi_26 (by repeat first | exact .head _ | apply List.Mem.tail) rfl) ?_
                          first | refine AJ_y 64 rfl (by kernel_rfl) (by kernel_rfl) rfl rfl (YJ_fieldOwn rfl fld_37_0 rfl) ?_ | refine AJ_y 64 rfl (by kernel_rfl) (by kernel_rfl) rfl rfl (YJ_fieldAddr rfl fld_37_0) ?_
                          first | refine AJ_y 65 rfl (by kernel_rfl) (by kernel_rfl) rfl rfl (YJ_ixArr rfl rfl arrt_34 (by omega) (by omega) rfl) ?_ | refine AJ_y 65 rfl (by kernel_rfl) (by kernel_rfl) rfl rfl (YJ_ixArrP rfl rfl arrt_34 (by omega) (by omega)) ?_
                          first | refine AJ_y 66 rfl (by kernel_rfl) (by kernel_rfl) rfl rfl (YJ_loadL rfl tyi_3 (by repeat first | exact .head _ | apply List.Mem.tail) rfl) ?_ | refine AJ_y 66 rfl (by kernel_rfl) (by kernel_rfl) rfl rfl (YJ_loadFact rfl tyi_3 (by repeat first | exact .head _ | apply List.Mem.tail) rfl) ?_
                          refine AJ_y 67 rfl (by kernel_rfl) (by kernel_rfl) rfl rfl (YJ_ixFact rfl rfl elt_26 (by repeat first | exact .head _ | apply List.Mem.tail) (by decide) (by omega) (by omega) (by omega)) ?_
                          refine AJ_y 68 rfl (by kernel_rfl) (by kernel_rfl) rfl rfl (YJ_loadFactN (vs := [_, _]) (xs := ptCells pts) rfl tyi_23 (by repeat first | exact .head _ | apply List.Mem.tail) (ptCells_get (i := (t.v2).toNat) (by omega)) rfl) ?_
                          first | refine AJ_y 69 rfl (by kernel_rfl) (by kernel_rfl) rfl rfl (YJ_loadL rfl tyi_28 (by repeat first | exact .head _ | apply List.Mem.tail) rfl) ?_ | refine AJ_y 69 rfl (by kernel_rfl) (by kernel_rfl) rfl rfl (YJ_loadFact rfl tyi_28 (by repeat first | exact .head _ | apply List.Mem.tail) rfl) ?_
                          refine AJ_y 70 rfl (by kernel_rfl) (by kernel_rfl) rfl rfl (YJ_nilCheck rfl) ?_
                          first | refine AJ_y 71 rfl (by kernel_rfl) (by kernel_rfl) rfl rfl (YJ_fieldOwn rfl fld_57_0 rfl) ?_ | refine AJ_y 71 rfl (by kernel_rfl) (by kernel_rfl) rfl rfl (YJ_fieldAddr rfl fld_57_0) ?_
                          refine AJ_y 72 rfl (by kernel_rfl) (by kernel_rfl) rfl rfl (YJ_loadFactP (A := some ⟨B, 0, none⟩) (j := 0) rfl rfl tyi_26 (by repeat first | exact .head _ | apply List.Mem.tail) rfl) ?_
                          first | refine AJ_y 73 rfl (by kernel_rfl) (by kernel_rfl) rfl rfl (YJ_fieldOwn rfl fld_37_0 rfl) ?_ | refine AJ_y 73 rfl (by kernel_rfl) (by kernel_rfl) rfl rfl (YJ_fieldAddr rfl fld_37_0) ?_
                          first | refine AJ_y 74 rfl (by kernel_rfl) (by kernel_rfl) rfl rfl (YJ_ixArr rfl rfl arrt_34 (by omega) (by omega) rfl) ?_ | refine AJ_y 74 rfl (by kernel_rfl) (by kernel_rfl) rfl rfl (YJ_ixArrP rfl rfl arrt_34 (by omega) (by omega)) ?_
                          first | refine AJ_y 75 rfl (by kernel_rfl) (by kernel_rfl) rfl rfl (YJ_loadL rfl tyi_3 (by repeat first | exact .head _ | apply List.Mem.tail) rfl) ?_ | refine AJ_y 75 rfl (by kernel_rfl) (by kernel_rfl) rfl rfl (YJ_loadFact rfl tyi_3 (by repeat first | exact .head _ | apply List.Mem.tail) rfl) ?_
                          refine AJ_y 76 rfl (by kernel_rfl) (by kernel_rfl) rfl rfl (YJ_ixFact rfl rfl elt_26 (by repeat first | exact .head _ | apply List.Mem.tail) (by decide) (by omega) (by omega) (by omega)) ?_
                          refine AJ_y 77 rfl (by kernel_rfl) (by kernel_rfl) rfl rfl (YJ_loadFactN (vs := [_, _]) (xs := ptCells pts) rfl tyi_23 (by repeat first | exact .head _ | apply List.Mem.tail) (ptCells_get (i := (t.v0).toNat) (by omega)) rfl) ?_
                          first | refine AJ_y 78 rfl (by kernel_rfl) (by kernel_rfl) rfl rfl (YJ_loadN (vs := [_, _]) rfl tyi_23 (by repeat first | exact .head _ | apply List.Mem.tail) rfl rfl) ?_ | refine AJ_y 78 rfl (by kernel_rfl) (by kernel_rfl) rfl rfl (YJ_loadFactN (vs := [_, _]) rfl tyi_23 (by repeat first | exact .head _ | apply List.Mem.tail) rfl rfl) ?_
                          refine AJ_call0 79 rfl (by kernel_rfl) rfl rfl rfl rfl rfl (orient_c hq2 hq0 hp) (AllIn.sub (by first | exact trivial | exact And.intro (by repeat first | exact .head _ | apply List.Mem.tail) trivial | exact And.intro (by repeat first | exact .head _ | apply List.Mem.tail) (And.intro (by repeat first | exact .head _ | apply List.Mem.tail) trivial))) ?_
                          refine AJ_y 80 rfl (by kernel_rfl) (by kernel_rfl) rfl rfl (YJ_bin rfl rfl rfl) ?_
                          refine AJ_y 81 rfl (by kernel_rfl) (by kernel_rfl) rfl rfl (YJ_pickT rfl rfl) ?_
                          refine AJ_y 82 rfl (by kernel_rfl) (by kernel_rfl) rfl rfl (YJ_assign rfl) ?_
                          refine AJ_done (by kernel_rfl) ?_
                          refine QJ_then ?_
                          refine CJ_ret ?_
                          refine QJ_finM (.inl rfl) [D0] rfl (μ' := []) (μr := [_, _, _, _, _, _, _]) (φ' := []) (res_tmp rfl rfl) (permI [] rfl) (fun _ h => nomatch h) ?_
                          exact ⟨congrArg Value.bool (by rw [he]; unfold rEnd rGhost hasV; (try simp only [← ptAt_def, sgn_pos]); first | (simp [h26, h35, h133, h193, h199, h221, h252, h257, h262, h285, h308]; done) | grind), rfl, rfl⟩
                        · try simp only [decide_eq_true_eq, decide_eq_false_iff_not, Bool.not_eq_true', Bool.not_eq_false', Bool.and_eq_true, Bool.and_eq_false_iff, beq_iff_eq, bne_iff_ne, beq_eq_false_iff_ne, bne_eq_false_iff_eq, ne_eq, decide_eq_decide] at h308
                          try simp only [← ptAt_def, sgn_pos] at h308
                          refine AJ_skip 60 rfl (by kernel_rfl) (by kernel_rfl) rfl rfl ?_
                          refine AJ_skip 61 rfl (by kernel_rfl) (by kernel_rfl) rfl rfl ?_
                          refine AJ_skip 62 rfl (by kernel_rfl) (by kernel_rfl) rfl rfl ?_
                          refine AJ_skip 63 rfl (by kernel_rfl) (by kernel_rfl) rfl rfl ?_
                          refine AJ_skip 64 rfl (by kernel_rfl) (by kernel_rfl) rfl rfl ?_
                          refine AJ_skip 65 rfl (by kernel_rfl) (by kernel_rfl) rfl rfl ?_
                          refine AJ_skip 66 rfl (by kernel_rfl) (by kernel_rfl) rfl rfl ?_
                          refine AJ_skip 67 rfl (by kernel_rfl) (by kernel_rfl) rfl rfl ?_
                          refine AJ_skip 68 rfl (by kernel_rfl) (by kernel_rfl) rfl rfl ?_
                          refine AJ_skip 69 rfl (by kernel_rfl) (by kernel_rfl) rfl rfl ?_
                          refine AJ_skip 70 rfl (by kernel_rfl) (by kernel_rfl) rfl rfl ?_
                          refine AJ_skip 71 rfl (by kernel_rfl) (by kernel_rfl) rfl rfl ?_
                          refine AJ_skip 72 rfl (by kernel_rfl) (by kernel_rfl) rfl rfl ?_
                          refine AJ_skip 73 rfl (by kernel_rfl) (by kernel_rfl) rfl rfl ?_
                          refine AJ_skip 74 rfl (by kernel_rfl) (by kernel_rfl) rfl rfl ?_
                          refine AJ_skip 75 rfl (by kernel_rfl) (by kernel_rfl) rfl rfl ?_
                          refine AJ_skip 76 rfl (by kernel_rfl) (by kernel_rfl) rfl rfl ?_
                          refine AJ_skip 77 rfl (by kernel_rfl) (by kernel_rfl) rfl rfl ?_
                          refine AJ_skip 78 rfl (by kernel_rfl) (by kernel_rfl) rfl rfl ?_
                          refine AJ_skip 79 rfl (by kernel_rfl) (by kernel_rfl) rfl rfl ?_
                          refine AJ_skip 80 rfl (by kernel_rfl) (by kernel_rfl) rfl rfl ?_
                          refine AJ_y 81 rfl (by kernel_rfl) (by kernel_rfl) rfl rfl (YJ_pickF rfl rfl) ?_
                          refine AJ_y 82 rfl (by kernel_rfl) (by kernel_rfl) rfl rfl (YJ_assign rfl) ?_
                          refine AJ_done (by kernel_rfl) ?_
                          refine QJ_then ?_
                          refine CJ_ret ?_
                          refine QJ_finM (.inl rfl) [D0] rfl (μ' := []) (μr := [_, _, _, _, _, _, _]) (φ' := []) (res_tmp rfl rfl) (permI [] rfl) (fun _ h => nomatch h) ?_
                          exact ⟨congrArg Value.bool (by rw [he]; unfold rEnd rGhost hasV; (try simp only [← ptAt_def, sgn_pos]); first | (simp [h26, h35, h133, h193, h199, h221, h252, h257, h262, h285, h308]; done) | grind), rfl, rfl⟩
                      · try simp only [decide_eq_true_eq, decide_eq_false_iff_not, Bool.not_eq_true', Bool.not_eq_false', Bool.and_eq_true, Bool.and_eq_false_iff, beq_iff_eq, bne_iff_ne, beq_eq_false_iff_ne, bne_eq_false_iff_eq, ne_eq, decide_eq_decide] at h285
                        try simp only [← ptAt_def, sgn_pos] at h285
                        refine AJ_skip 37 rfl (by kernel_rfl) (by kernel_rfl) rfl rfl ?_
                        refine AJ_skip 38 rfl (by kernel_rfl) (by kernel_rfl) rfl rfl ?_
                        refine AJ_skip 39 rfl (by kernel_rfl) (by kernel_rfl) rfl rfl ?_
                        refine AJ_skip 40 rfl (by kernel_rfl) (by kernel_rfl) rfl rfl ?_
                        refine AJ_skip 41 rfl (by kernel_rfl) (by kernel_rfl) rfl rfl ?_
                        refine AJ_skip 42 rfl (by kernel_rfl) (by kernel_rfl) rfl rfl ?_
                        refine AJ_skip 43 rfl (by kernel_rfl) (by kernel_rfl) rfl rfl ?_
                        refine AJ_skip 44 rfl (by kernel_rfl) (by kernel_rfl) rfl rfl ?_
                        refine AJ_skip 45 rfl (by kernel_rfl) (by kernel_rfl) rfl rfl ?_
                        refine AJ_skip 46 rfl (by kernel_rfl) (by kernel_rfl) rfl rfl ?_
                        refine AJ_skip 47 rfl (by kernel_rfl) (by kernel_rfl) rfl rfl ?_
                        refine AJ_skip 48 rfl (by kernel_rfl) (by kernel_rfl) rfl rfl ?_
                        refine AJ_skip 49 rfl (by kernel_rfl) (by kernel_rfl) rfl rfl ?_
                        refine AJ_skip 50 rfl (by kernel_rfl) (by kernel_rfl) rfl rfl ?_
                        refine AJ_skip 51 rfl (by kernel_rfl) (by kernel_rfl) rfl rfl ?_
                        refine AJ_skip 52 rfl (by kernel_rfl) (by kernel_rfl) rfl rfl ?_
                        refine AJ_skip 53 rfl (by kernel_rfl) (by kernel_rfl) rfl rfl ?_
                        refine AJ_skip 54 rfl (by kernel_rfl) (by kernel_rfl) rfl rfl ?_
                        refine AJ_skip 55 rfl (by kernel_rfl) (by kernel_rfl) rfl rfl ?_
                        refine AJ_skip 56 rfl (by kernel_rfl) (by kernel_rfl) rfl rfl ?_
                        refine AJ_skip 57 rfl (by kernel_rfl) (by kernel_rfl) rfl rfl ?_
                        refine AJ_y 58 rfl (by kernel_rfl) (by kernel_rfl) rfl rfl (YJ_pickF rfl rfl) ?_
                        refine AJ_y 59 rfl (by kernel_rfl) (by kernel_rfl) rfl rfl (YJ_move rfl) ?_
                        refine AJ_skip 60 rfl (by kernel_rfl) (by kernel_rfl) rfl rfl ?_
                        refine AJ_skip 61 rfl (by kernel_rfl) (by kernel_rfl) rfl rfl ?_
                        refine AJ_skip 62 rfl (by kernel_rfl) (by kernel_rfl) rfl rfl ?_
                        refine AJ_skip 63 rfl (by kernel_rfl) (by kernel_rfl) rfl rfl ?_
                        refine AJ_skip 64 rfl (by kernel_rfl) (by kernel_rfl) rfl rfl ?_
                        refine AJ_skip 65 rfl (by kernel_rfl) (by kernel_rfl) rfl rfl ?_
                        refine AJ_skip 66 rfl (by kernel_rfl) (by kernel_rfl) rfl rfl ?_
                        refine AJ_skip 67 rfl (by kernel_rfl) (by kernel_rfl) rfl rfl ?_
                        refine AJ_skip 68 rfl (by kernel_rfl) (by kernel_rfl) rfl rfl ?_
                        refine AJ_skip 69 rfl (by kernel_rfl) (by kernel_rfl) rfl rfl ?_
                        refine AJ_skip 70 rfl (by kernel_rfl) (by kernel_rfl) rfl rfl ?_
                        refine AJ_skip 71 rfl (by kernel_rfl) (by kernel_rfl) rfl rfl ?_
                        refine AJ_skip 72 rfl (by kernel_rfl) (by kernel_rfl) rfl rfl ?_
                        refine AJ_skip 73 rfl (by kernel_rfl) (by kernel_rfl) rfl rfl ?_
                        refine AJ_skip 74 rfl (by kernel_rfl) (by kernel_rfl) rfl rfl ?_
                        refine AJ_skip 75 rfl (by kernel_rfl) (by kernel_rfl) rfl rfl ?_
                        refine AJ_skip 76 rfl (by kernel_rfl) (by kernel_rfl) rfl rfl ?_
                        refine AJ_skip 77 rfl (by kernel_rfl) (by kernel_rfl) rfl rfl ?_
                        refine AJ_skip 78 rfl (by kernel_rfl) (by kernel_rfl) rfl rfl ?_
                        refine AJ_skip 79 rfl (by kernel_rfl) (by kernel_rfl) rfl rfl ?_
                        refine AJ_skip 80 rfl (by kernel_rfl) (by kernel_rfl) rfl rfl ?_
                        refine AJ_y 81 rfl (by kernel_rfl) (by kernel_rfl) rfl rfl (YJ_pickF rfl rfl) ?_
                        refine AJ_y 82 rfl (by kernel_rfl) (by kernel_rfl) rfl rfl (YJ_assign rfl) ?_
                        refine AJ_done (by kernel_rfl) ?_
                        refine QJ_then ?_
                        refine CJ_ret ?_
                        refine QJ_finM (.inl rfl) [D0] rfl (μ' := []) (μr := [_, _, _, _, _, _, _]) (φ' := []) (res_tmp rfl rfl) (permI [] rfl) (fun _ h => nomatch h) ?_
                        exact ⟨congrArg Value.bool (by rw [he]; unfold rEnd rGhost hasV; (try simp only [← ptAt_def, sgn_pos]); first | (simp [h26, h35, h133, h193, h199, h221, h252, h257, h262, h285]; done) | grind), rfl, rfl⟩
                    · try simp only [decide_eq_true_eq, decide_eq_false_iff_not, Bool.not_eq_true', Bool.not_eq_false', Bool.and_eq_true, Bool.and_eq_false_iff, beq_iff_eq, bne_iff_ne, beq_eq_false_iff_ne, bne_eq_false_iff_eq, ne_eq, decide_eq_decide] at h262
                      refine AJ_skip 14 rfl (by kernel_rfl) (by kernel_rfl) rfl rfl ?_
                      refine AJ_skip 15 rfl (by kernel_rfl) (by kernel_rfl) rfl rfl ?_
                      refine AJ_skip 16 rfl (by kernel_rfl) (by kernel_rfl) rfl rfl ?_
                      refine AJ_skip 17 rfl (by kernel_rfl) (by kernel_rfl) rfl rfl ?_
                      refine AJ_skip 18 rfl (by kernel_rfl) (by kernel_rfl) rfl rfl ?_
                      refine AJ_skip 19 rfl (by kernel_rfl) (by kernel_rfl) rfl rfl ?_
                      refine AJ_skip 20 rfl (by kernel_rfl) (by kernel_rfl) rfl rfl ?_
                      refine AJ_skip 21 rfl (by kernel_rfl) (by kernel_rfl) rfl rfl ?_
                      refine AJ_skip 22 rfl (by kernel_rfl) (by kernel_rfl) rfl rfl ?_
                      refine AJ_skip 23 rfl (by kernel_rfl) (by kernel_rfl) rfl rfl ?_
                      refine AJ_skip 24 rfl (by kernel_rfl) (by kernel_rfl) rfl rfl ?_
                      refine AJ_skip 25 rfl (by kernel_rfl) (by kernel_rfl) rfl rfl ?_
                      refine AJ_skip 26 rfl (by kernel_rfl) (by kernel_rfl) rfl rfl ?_
                      refine AJ_skip 27 rfl (by kernel_rfl) (by kernel_rfl) rfl rfl ?_
                      refine AJ_skip 28 rfl (by kernel_rfl) (by kernel_rfl) rfl rfl ?_
                      refine AJ_skip 29 rfl (by kernel_rfl) (by kernel_rfl) rfl rfl ?_
                      refine AJ_skip 30 rfl (by kernel_rfl) (by kernel_rfl) rfl rfl ?_
                      refine AJ_skip 31 rfl (by kernel_rfl) (by kernel_rfl) rfl rfl ?_
                      refine AJ_skip 32 rfl (by kernel_rfl) (by kernel_rfl) rfl rfl ?_
                      refine AJ_skip 33 rfl (by kernel_rfl) (by kernel_rfl) rfl rfl ?_
                      refine AJ_skip 34 rfl (by kernel_rfl) (by kernel_rfl) rfl rfl ?_
                      refine AJ_y 35 rfl (by kernel_rfl) (by kernel_rfl) rfl rfl (YJ_pickF rfl rfl) ?_
                      refine AJ_y 36 rfl (by kernel_rfl) (by kernel_rfl) rfl rfl (YJ_move rfl) ?_
                      refine AJ_skip 37 rfl (by kernel_rfl) (by kernel_rfl) rfl rfl ?_
                      refine AJ_skip 38 rfl (by kernel_rfl) (by kernel_rfl) rfl rfl ?_
                      refine AJ_skip 39 rfl (by kernel_rfl) (by kernel_rfl) rfl rfl ?_
                      refine AJ_skip 40 rfl (by kernel_rfl) (by kernel_rfl) rfl rfl ?_
                      refine AJ_skip 41 rfl (by kernel_rfl) (by kernel_rfl) rfl rfl ?_
                      refine AJ_skip 42 rfl (by kernel_rfl) (by kernel_rfl) rfl rfl ?_
                      refine AJ_skip 43 rfl (by kernel_rfl) (by kernel_rfl) rfl rfl ?_
                      refine AJ_skip 44 rfl (by kernel_rfl) (by kernel_rfl) rfl rfl ?_
                      refine AJ_skip 45 rfl (by kernel_rfl) (by kernel_rfl) rfl rfl ?_
                      refine AJ_skip 46 rfl (by kernel_rfl) (by kernel_rfl) rfl rfl ?_
                      refine AJ_skip 47 rfl (by kernel_rfl) (by kernel_rfl) rfl rfl ?_
                      refine AJ_skip 48 rfl (by kernel_rfl) (by kernel_rfl) rfl rfl ?_
                      refine AJ_skip 49 rfl (by kernel_rfl) (by kernel_rfl) rfl rfl ?_
                      refine AJ_skip 50 rfl (by kernel_rfl) (by kernel_rfl) rfl rfl ?_
                      refine AJ_skip 51 rfl (by kernel_rfl) (by kernel_rfl) rfl rfl ?_
                      refine AJ_skip 52 rfl (by kernel_rfl) (by kernel_rfl) rfl rfl ?_
                      refine AJ_skip 53 rfl (by kernel_rfl) (by kernel_rfl) rfl rfl ?_
                      refine AJ_skip 54 rfl (by kernel_rfl) (by kernel_rfl) rfl rfl ?_
                      refine AJ_skip 55 rfl (by kernel_rfl) (by kernel_rfl) rfl rfl ?_
                      refine AJ_skip 56 rfl (by kernel_rfl) (by kernel_rfl) rfl rfl ?_
                      refine AJ_skip 57 rfl (by kernel_rfl) (by kernel_rfl) rfl rfl ?_
                      refine AJ_y 58 rfl (by kernel_rfl) (by kernel_rfl) rfl rfl (YJ_pickF rfl rfl) ?_
                      refine AJ_y 59 rfl (by kernel_rfl) (by kernel_rfl) rfl rfl (YJ_move rfl) ?_
                      refine AJ_skip 60 rfl (by kernel_rfl) (by kernel_rfl) rfl rfl ?_
                      refine AJ_skip 61 rfl (by kernel_rfl) (by kernel_rfl) rfl rfl ?_
                      refine AJ_skip 62 rfl (by kernel_rfl) (by kernel_rfl) rfl rfl ?_
                      refine AJ_skip 63 rfl (by kernel_rfl) (by kernel_rfl) rfl rfl ?_
                      refine AJ_skip 64 rfl (by kernel_rfl) (by kernel_rfl) rfl rfl ?_
                      refine AJ_skip 65 rfl (by kernel_rfl) (by kernel_rfl) rfl rfl ?_
                      refine AJ_skip 66 rfl (by kernel_rfl) (by kernel_rfl) rfl rfl ?_
                      refine AJ_skip 67 rfl (by kernel_rfl) (by kernel_rfl) rfl rfl ?_
                      refine AJ_skip 68 rfl (by kernel_rfl) (by kernel_rfl) rfl rfl ?_
                      refine AJ_skip 69 rfl (by kernel_rfl) (by kernel_rfl) rfl rfl ?_
                      refine AJ_skip 70 rfl (by kernel_rfl) (by kernel_rfl) rfl rfl ?_
                      refine AJ_skip 71 rfl (by kernel_rfl) (by kernel_rfl) rfl rfl ?_
                      refine AJ_skip 72 rfl (by kernel_rfl) (by kernel_rfl) rfl rfl ?_
                      refine AJ_skip 73 rfl (by kernel_rfl) (by kernel_rfl) rfl rfl ?_
                      refine AJ_skip 74 rfl (by kernel_rfl) (by kernel_rfl) rfl rfl ?_
                      refine AJ_skip 75 rfl (by kernel_rfl) (by kernel_rfl) rfl rfl ?_
                      refine AJ_skip 76 rfl (by kernel_rfl) (by kernel_rfl) rfl rfl ?_
                      refine AJ_skip 77 rfl (by kernel_rfl) (by kernel_rfl) rfl rfl ?_
                      refine AJ_skip 78 rfl (by kernel_rfl) (by kernel_rfl) rfl rfl ?_
                      refine AJ_skip 79 rfl (by kernel_rfl) (by kernel_rfl) rfl rfl ?_
                      refine AJ_skip 80 rfl (by kernel_rfl) (by kernel_rfl) rfl rfl ?_
                      refine AJ_y 81 rfl (by kernel_rfl) (by kernel_rfl) rfl rfl (YJ_pickF rfl rfl) ?_
                      refine AJ_y 82 rfl (by kernel_rfl) (by kernel_rfl) rfl rfl (YJ_assign rfl) ?_
                      refine AJ_done (by kernel_rfl) ?_
                      refine QJ_then ?_
                      refine CJ_ret ?_
                      refine QJ_finM (.inl rfl) [D0] rfl (μ' := []) (μr := [_, _, _, _, _, _, _]) (φ' := []) (res_tmp rfl rfl) (permI [] rfl) (fun _ h => nomatch h) ?_
                      exact ⟨congrArg Value.bool (by rw [he]; unfold rEnd rGhost hasV; (try simp only [← ptAt_def, sgn_pos]); first | (simp [h26, h35, h133, h193, h199, h221, h252, h257, h262]; done) | grind), rfl, rfl⟩
                  · try simp only [decide_eq_true_eq, decide_eq_false_iff_not, Bool.not_eq_true', Bool.not_eq_false', Bool.and_eq_true, Bool.and_eq_false_iff, beq_iff_eq, bne_iff_ne, beq_eq_false_iff_ne, bne_eq_false_iff_eq, ne_eq, decide_eq_decide] at h257
                    refine AJ_skip 9 rfl (by kernel_rfl) (by kernel_rfl) rfl rfl ?_
                    refine AJ_skip 10 rfl (by kernel_rfl) (by kernel_rfl) rfl rfl ?_
                    refine AJ_skip 11 rfl (by kernel_rfl) (by kernel_rfl) rfl rfl ?_
                    refine AJ_y 12 rfl (by kernel_rfl) (by kernel_rfl) rfl rfl (YJ_pickF rfl rfl) ?_
                    refine AJ_y 13 rfl (by kernel_rfl) (by kernel_rfl) rfl rfl (YJ_move rfl) ?_
                    refine AJ_skip 14 rfl (by kernel_rfl) (by kernel_rfl) rfl rfl ?_
                    refine AJ_skip 15 rfl (by kernel_rfl) (by kernel_rfl) rfl rfl ?_
                    refine AJ_skip 16 rfl (by kernel_rfl) (by kernel_rfl) rfl rfl ?_
                    refine AJ_skip 17 rfl (by kernel_rfl) (by kernel_rfl) rfl rfl ?_
                    refine AJ_skip 18 rfl (by kernel_rfl) (by kernel_rfl) rfl rfl ?_
                    refine AJ_skip 19 rfl (by kernel_rfl) (by kernel_rfl) rfl rfl ?_
                    refine AJ_skip 20 rfl (by kernel_rfl) (by kernel_rfl) rfl rfl ?_
                    refine AJ_skip 21 rfl (by kernel_rfl) (by kernel_rfl) rfl rfl ?_
                    refine AJ_skip 22 rfl (by kernel_rfl) (by kernel_rfl) rfl rfl ?_
                    refine AJ_skip 23 rfl (by kernel_rfl) (by kernel_rfl) rfl rfl ?_
                    refine AJ_skip 24 rfl (by kernel_rfl) (by kernel_rfl) rfl rfl ?_
                    refine AJ_skip 25 rfl (by kernel_rfl) (by kernel_rfl) rfl rfl ?_
                    refine AJ_skip 26 rfl (by kernel_rfl) (by kernel_rfl) rfl rfl ?_
                    refine AJ_skip 27 rfl (by kernel_rfl) (by kernel_rfl) rfl rfl ?_
                    refine AJ_skip 28 rfl (by kernel_rfl) (by kernel_rfl) rfl rfl ?_
                    refine AJ_skip 29 rfl (by kernel_rfl) (by kernel_rfl) rfl rfl ?_
                    refine AJ_skip 30 rfl (by kernel_rfl) (by kernel_rfl) rfl rfl ?_
                    refine AJ_skip 31 rfl (by kernel_rfl) (by kernel_rfl) rfl rfl ?_
                    refine AJ_skip 32 rfl (by kernel_rfl) (by kernel_rfl) rfl rfl ?_
                    refine AJ_skip 33 rfl (by kernel_rfl) (by kernel_rfl) rfl rfl ?_
                    refine AJ_skip 34 rfl (by kernel_rfl) (by kernel_rfl) rfl rfl ?_
                    refine AJ_y 35 rfl (by kernel_rfl) (by kernel_rfl) rfl rfl (YJ_pickF rfl rfl) ?_
                    refine AJ_y 36 rfl (by kernel_rfl) (by kernel_rfl) rfl rfl (YJ_move rfl) ?_
                    refine AJ_skip 37 rfl (by kernel_rfl) (by kernel_rfl) rfl rfl ?_
                    refine AJ_skip 38 rfl (by kernel_rfl) (by kernel_rfl) rfl rfl ?_
                    refine AJ_skip 39 rfl (by kernel_rfl) (by kernel_rfl) rfl rfl ?_
                    refine AJ_skip 40 rfl (by kernel_rfl) (by kernel_rfl) rfl rfl ?_
                    refine AJ_skip 41 rfl (by kernel_rfl) (by kernel_rfl) rfl rfl ?_
                    refine AJ_skip 42 rfl (by kernel_rfl) (by kernel_rfl) rfl rfl ?_
                    refine AJ_skip 43 rfl (by kernel_rfl) (by kernel_rfl) rfl rfl ?_
                    refine AJ_skip 44 rfl (by kernel_rfl) (by kernel_rfl) rfl rfl ?_
                    refine AJ_skip 45 rfl (by kernel_rfl) (by kernel_rfl) rfl rfl ?_
                    refine AJ_skip 46 rfl (by kernel_rfl) (by kernel_rfl) rfl rfl ?_
                    refine AJ_skip 47 rfl (by kernel_rfl) (by kernel_rfl) rfl rfl ?_
                    refine AJ_skip 48 rfl (by kernel_rfl) (by kernel_rfl) rfl rfl ?_
                    refine AJ_skip 49 rfl (by kernel_rfl) (by kernel_rfl) rfl rfl ?_
                    refine AJ_skip 50 rfl (by kernel_rfl) (by kernel_rfl) rfl rfl ?_
                    refine AJ_skip 51 rfl (by kernel_rfl) (by kernel_rfl) rfl rfl ?_
                    refine AJ_skip 52 rfl (by kernel_rfl) (by kernel_rfl) rfl rfl ?_
                    refine AJ_skip 53 rfl (by kernel_rfl) (by kernel_rfl) rfl rfl ?_
                    refine AJ_skip 54 rfl (by kernel_rfl) (by kernel_rfl) rfl rfl ?_
                    refine AJ_skip 55 rfl (by kernel_rfl) (by kernel_rfl) rfl rfl ?_
                    refine AJ_skip 56 rfl (by kernel_rfl) (by kernel_rfl) rfl rfl ?_
                    refine AJ_skip 57 rfl (by kernel_rfl) (by kernel_rfl) rfl rfl ?_
                    refine AJ_y 58 rfl (by kernel_rfl) (by kernel_rfl) rfl rfl (YJ_pickF rfl rfl) ?_
                    refine AJ_y 59 rfl (by kernel_rfl) (by kernel_rfl) rfl rfl (YJ_move rfl) ?_
                    refine AJ_skip 60 rfl (by kernel_rfl) (by kernel_rfl) rfl rfl ?_
                    refine AJ_skip 61 rfl (by kernel_rfl) (by kernel_rfl) rfl rfl ?_
                    refine AJ_skip 62 rfl (by kernel_rfl) (by kernel_rfl) rfl rfl ?_
                    refine AJ_skip 63 rfl (by kernel_rfl) (by kernel_rfl) rfl rfl ?_
                    refine AJ_skip 64 rfl (by kernel_rfl) (by kernel_rfl) rfl rfl ?_
                    refine AJ_skip 65 rfl (by kernel_rfl) (by kernel_rfl) rfl rfl ?_
                    refine AJ_skip 66 rfl (by kernel_rfl) (by kernel_rfl) rfl rfl ?_
                    refine AJ_skip 67 rfl (by kernel_rfl) (by kernel_rfl) rfl rfl ?_
                    refine AJ_skip 68 rfl (by kernel_rfl) (by kernel_rfl) rfl rfl ?_
                    refine AJ_skip 69 rfl (by kernel_rfl) (by kernel_rfl) rfl rfl ?_
                    refine AJ_skip 70 rfl (by kernel_rfl) (by kernel_rfl) rfl rfl ?_
                    refine AJ_skip 71 rfl (by kernel_rfl) (by kernel_rfl) rfl rfl ?_
                    refine AJ_skip 72 rfl (by kernel_rfl) (by kernel_rfl) rfl rfl ?_
                    refine AJ_skip 73 rfl (by kernel_rfl) (by kernel_rfl) rfl rfl ?_
                    refine AJ_skip 74 rfl (by kernel_rfl) (by kernel_rfl) rfl rfl ?_
                    refine AJ_skip 75 rfl (by kernel_rfl) (by kernel_rfl) rfl rfl ?_
                    refine AJ_skip 76 rfl (by kernel_rfl) (by kernel_rfl) rfl rfl ?_
                    refine AJ_skip 77 rfl (by kernel_rfl) (by kernel_rfl) rfl rfl ?_
                    refine AJ_skip 78 rfl (by kernel_rfl) (by kernel_rfl) rfl rfl ?_
                    refine AJ_skip 79 rfl (by kernel_rfl) (by kernel_rfl) rfl rfl ?_
                    refine AJ_skip 80 rfl (by kernel_rfl) (by kernel_rfl) rfl rfl ?_
                    refine AJ_y 81 rfl (by kernel_rfl) (by kernel_rfl) rfl rfl (YJ_pickF rfl rfl) ?_
                    refine AJ_y 82 rfl (by kernel_rfl) (by kernel_rfl) rfl rfl (YJ_assign rfl) ?_
                    refine AJ_done (by kernel_rfl) ?_
                    refine QJ_then ?_
                    refine CJ_ret ?_
                    refine QJ_finM (.inl rfl) [D0] rfl (μ' := []) (μr := [_, _, _, _, _, _, _]) (φ' := []) (res_tmp rfl rfl) (permI [] rfl) (fun _ h => nomatch h) ?_
                    exact ⟨congrArg Value.bool (by rw [he]; unfold rEnd rGhost hasV; (try simp only [← ptAt_def, sgn_pos]); first | (simp [h26, h35, h133, h193, h199, h221, h252, h257]; done) | grind), rfl, rfl⟩
                · try simp only [decide_eq_true_eq, decide_eq_false_iff_not, Bool.not_eq_true', Bool.not_eq_false', Bool.and_eq_true, Bool.and_eq_false_iff, beq_iff_eq, bne_iff_ne, beq_eq_false_iff_ne, bne_eq_false_iff_eq, ne_eq, decide_eq_decide] at h252
                  refine AJ_skip 4 rfl (by kernel_rfl) (by kernel_rfl) rfl rfl ?_
                  refine AJ_skip 5 rfl (by kernel_rfl) (by kernel_rfl) rfl rfl ?_
                  refine AJ_skip 6 rfl (by kernel_rfl) (by kernel_rfl) rfl rfl ?_
                  refine AJ_y 7 rfl (by kernel_rfl) (by kernel_rfl) rfl rfl (YJ_pickF rfl rfl) ?_
                  refine AJ_y 8 rfl (by kernel_rfl) (by kernel_rfl) rfl rfl (YJ_move rfl) ?_
                  refine AJ_skip 9 rfl (by kernel_rfl) (by kernel_rfl) rfl rfl ?_
                  refine AJ_skip 10 rfl (by kernel_rfl) (by kernel_rfl) rfl rfl ?_
                  refine AJ_skip 11 rfl (by kernel_rfl) (by kernel_rfl) rfl rfl ?_
                  refine AJ_y 12 rfl (by kernel_rfl) (by kernel_rfl) rfl rfl (YJ_pickF rfl rfl) ?_
                  refine AJ_y 13 rfl (by kernel_rfl) (by kernel_rfl) rfl rfl (YJ_move rfl) ?_
                  refine AJ_skip 14 rfl (by kernel_rfl) (by kernel_rfl) rfl rfl ?_
                  refine AJ_skip 15 rfl (by kernel_rfl) (by kernel_rfl) rfl rfl ?_
                  refine AJ_skip 16 rfl (by kernel_rfl) (by kernel_rfl) rfl rfl ?_
                  refine AJ_skip 17 rfl (by kernel_rfl) (by kernel_rfl) rfl rfl ?_
                  refine AJ_skip 18 rfl (by kernel_rfl) (by kernel_rfl) rfl rfl ?_
                  refine AJ_skip 19 rfl (by kernel_rfl) (by kernel_rfl) rfl rfl ?_
                  refine AJ_skip 20 rfl (by kernel_rfl) (by kernel_rfl) rfl rfl ?_
                  refine AJ_skip 21 rfl (by kernel_rfl) (by kernel_rfl) rfl rfl ?_
                  refine AJ_skip 22 rfl (by kernel_rfl) (by kernel_rfl) rfl rfl ?_
                  refine AJ_skip 23 rfl (by kernel_rfl) (by kernel_rfl) rfl rfl ?_
                  refine AJ_skip 24 rfl (by kernel_rfl) (by kernel_rfl) rfl rfl ?_
                  refine AJ_skip 25 rfl (by kernel_rfl) (by kernel_rfl) rfl rfl ?_
                  refine AJ_skip 26 rfl (by kernel_rfl) (by kernel_rfl) rfl rfl ?_
                  refine AJ_skip 27 rfl (by kernel_rfl) (by kernel_rfl) rfl rfl ?_
                  refine AJ_skip 28 rfl (by kernel_rfl) (by kernel_rfl) rfl rfl ?_
                  refine AJ_skip 29 rfl (by kernel_rfl) (by kernel_rfl) rfl rfl ?_
                  refine AJ_skip 30 rfl (by kernel_rfl) (by kernel_rfl) rfl rfl ?_
                  refine AJ_skip 31 rfl (by kernel_rfl) (by kernel_rfl) rfl rfl ?_
                  refine AJ_skip 32 rfl (by kernel_rfl) (by kernel_rfl) rfl rfl ?_
                  refine AJ_skip 33 rfl (by kernel_rfl) (by kernel_rfl) rfl rfl ?_
                  refine AJ_skip 34 rfl (by kernel_rfl) (by kernel_rfl) rfl rfl ?_
                  refine AJ_y 35 rfl (by kernel_rfl) (by kernel_rfl) rfl rfl (YJ_pickF rfl rfl) ?_
                  refine AJ_y 36 rfl (by kernel_rfl) (by kernel_rfl) rfl rfl (YJ_move rfl) ?_
                  refine AJ_skip 37 rfl (by kernel_rfl) (by kernel_rfl) rfl rfl ?_
                  refine AJ_skip 38 rfl (by kernel_rfl) (by kernel_rfl) rfl rfl ?_
                  refine AJ_skip 39 rfl (by kernel_rfl) (by kernel_rfl) rfl rfl ?_
                  refine AJ_skip 40 rfl (by kernel_rfl) (by kernel_rfl) rfl rfl ?_
                  refine AJ_skip 41 rfl (by kernel_rfl) (by kernel_rfl) rfl rfl ?_
                  refine AJ_skip 42 rfl (by kernel_rfl) (by kernel_rfl) rfl rfl ?_
                  refine AJ_skip 43 rfl (by kernel_rfl) (by kernel_rfl) rfl rfl ?_
                  refine AJ_skip 44 rfl (by kernel_rfl) (by kernel_rfl) rfl rfl ?_
                  refine AJ_skip 45 rfl (by kernel_rfl) (by kernel_rfl) rfl rfl ?_
                  refine AJ_skip 46 rfl (by kernel_rfl) (by kernel_rfl) rfl rfl ?_
                  refine AJ_skip 47 rfl (by kernel_rfl) (by kernel_rfl) rfl rfl ?_
                  refine AJ_skip 48 rfl (by kernel_rfl) (by kernel_rfl) rfl rfl ?_
                  refine AJ_skip 49 rfl (by kernel_rfl) (by kernel_rfl) rfl rfl ?_
                  refine AJ_skip 50 rfl (by kernel_rfl) (by kernel_rfl) rfl rfl ?_
                  refine AJ_skip 51 rfl (by kernel_rfl) (by kernel_rfl) rfl rfl ?_
                  refine AJ_skip 52 rfl (by kernel_rfl) (by kernel_rfl) rfl rfl ?_
                  refine AJ_skip 53 rfl (by kernel_rfl) (by kernel_rfl) rfl rfl ?_
                  refine AJ_skip 54 rfl (by kernel_rfl) (by kernel_rfl) rfl rfl ?_
                  refine AJ_skip 55 rfl (by kernel_rfl) (by kernel_rfl) rfl rfl ?_
                  refine AJ_skip 56 rfl (by kernel_rfl) (by kernel_rfl) rfl rfl ?_
                  refine AJ_skip 57 rfl (by kernel_rfl) (by kernel_rfl) rfl rfl ?_
                  refine AJ_y 58 rfl (by kernel_rfl) (by kernel_rfl) rfl rfl (YJ_pickF rfl rfl) ?_
                  refine AJ_y 59 rfl (by kernel_rfl) (by kernel_rfl) rfl rfl (YJ_move rfl) ?_
                  refine AJ_skip 60 rfl (by kernel_rfl) (by kernel_rfl) rfl rfl ?_
                  refine AJ_skip 61 rfl (by kernel_rfl) (by kernel_rfl) rfl rfl ?_
                  refine AJ_skip 62 rfl (by kernel_rfl) (by kernel_rfl) rfl rfl ?_
                  refine AJ_skip 63 rfl (by kernel_rfl) (by kernel_rfl) rfl rfl ?_
                  refine AJ_skip 64 rfl (by kernel_rfl) (by kernel_rfl) rfl rfl ?_
                  refine AJ_skip 65 rfl (by kernel_rfl) (by kernel_rfl) rfl rfl ?_
                  refine AJ_skip 66 rfl (by kernel_rfl) (by kernel_rfl) rfl rfl ?_
                  refine AJ_skip 67 rfl (by kernel_rfl) (by kernel_rfl) rfl rfl ?_
                  refine AJ_skip 68 rfl (by kernel_rfl) (by kernel_rfl) rfl rfl ?_
                  refine AJ_skip 69 rfl (by kernel_rfl) (by kernel_rfl) rfl rfl ?_
                  refine AJ_skip 70 rfl (by kernel_rfl) (by kernel_rfl) rfl rfl ?_
                  refine AJ_skip 71 rfl (by kernel_rfl) (by kernel_rfl) rfl rfl ?_
                  refine AJ_skip 72 rfl (by kernel_rfl) (by kernel_rfl) rfl rfl ?_
                  refine AJ_skip 73 rfl (by kernel_rfl) (by kernel_rfl) rfl rfl ?_
                  refine AJ_skip 74 rfl (by kernel_rfl) (by kernel_rfl) rfl rfl ?_
                  refine AJ_skip 75 rfl (by kernel_rfl) (by kernel_rfl) rfl rfl ?_
                  refine AJ_skip 76 rfl (by kernel_rfl) (by kernel_rfl) rfl rfl ?_
                  refine AJ_skip 77 rfl (by kernel_rfl) (by kernel_rfl) rfl rfl ?_
                  refine AJ_skip 78 rfl (by kernel_rfl) (by kernel_rfl) rfl rfl ?_
                  refine AJ_skip 79 rfl (by kernel_rfl) (by kernel_rfl) rfl rfl ?_
                  refine AJ_skip 80 rfl (by kernel_rfl) (by kernel_rfl) rfl rfl ?_
                  refine AJ_y 81 rfl (by kernel_rfl) (by kernel_rfl) rfl rfl (YJ_pickF rfl rfl) ?_
                  refine AJ_y 82 rfl (by kernel_rfl) (by kernel_rfl) rfl rfl (YJ_assign rfl) ?_
                  refine AJ_done (by kernel_rfl) ?_
                  refine QJ_then ?_
                  refine CJ_ret ?_
                  refine QJ_finM (.inl rfl) [D0] rfl (μ' := []) (μr := [_, _, _, _, _, _, _]) (φ' := []) (res_tmp rfl rfl) (permI [] rfl) (fun _ h => nomatch h) ?_
                  exact ⟨congrArg Value.bool (by rw [he]; unfold rEnd rGhost hasV; (try simp only [← ptAt_def, sgn_pos]); first | (simp [h26, h35, h133, h193, h199, h221, h252]; done) | grind), rfl, rfl⟩
      · exact fun _ _ _ _ _ h => h.elim

end Go.Proofs.Ytbanlhlggkdanaa
