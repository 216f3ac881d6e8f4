/- More walks of the functions of wide. -/
import Derived.Test.YtbanlhlggkdanaaW1
set_option linter.unusedSimpArgs false
set_option linter.unusedVariables false
namespace Go.Proofs.Ytbanlhlggkdanaa
open Go.RowKit

theorem ent_105 : Enter Try.prog 105 = true := by kernel_rfl
theorem mix : Try.prog.follows .mixedOrders = true := by kernel_rfl
theorem ent_103 : Enter Try.prog 103 = true := by kernel_rfl


theorem add_words {ah al bh bl a b : Int} (h : IsW ah al a) (h' : IsW bh bl b) : IsW ((ah + bh + (al + bl + 0) / 18446744073709551616) % 18446744073709551616) ((al + bl + 0) % 18446744073709551616) (a + b) := by
  unfold IsW at *; omega
theorem sub_words {ah al bh bl a b : Int} (h : IsW ah al a) (h' : IsW bh bl b) : IsW ((ah - bh - -((al - bl - 0) / 18446744073709551616)) % 18446744073709551616) ((al - bl - 0) % 18446744073709551616) (a - b) := by
  unfold IsW at *; omega
theorem RetWo_no {n : Int} (e : ¬ R128 n) : RetWo n (.tuple #[.agg #[.int .u64 0, .int .u64 0], .bool false]) [] [] :=
  ⟨(0, 0), by rw [if_neg e]; exact ⟨rfl, rfl⟩, by rw [decide_eq_false e]; rfl, rfl, rfl⟩
theorem RetWo_yes {n hi lo : Int} (h : IsW hi lo n) (e : R128 n) : RetWo n (.tuple #[.agg #[.int .u64 hi, .int .u64 lo], .bool true]) [] [] :=
  ⟨(hi, lo), by rw [if_pos e]; exact h, by rw [decide_eq_true e]; rfl, rfl, rfl⟩
theorem add_no {ah bh hi lo a b : Int} (h1 : ah / 9223372036854775808 = 1 ↔ a < 0) (h2 : bh / 9223372036854775808 = 1 ↔ b < 0) (h3 : IsW hi lo (a + b)) (ra : R128 a) (rb : R128 b)
    (g1 : ah / 9223372036854775808 = 1 ↔ bh / 9223372036854775808 = 1) (g2 : ¬ (hi / 9223372036854775808 = 1 ↔ ah / 9223372036854775808 = 1)) : ¬ R128 (a + b) := by
  unfold IsW at h3; unfold R128 at *; omega
theorem add_yes {ah bh hi lo a b : Int} (h1 : ah / 9223372036854775808 = 1 ↔ a < 0) (h2 : bh / 9223372036854775808 = 1 ↔ b < 0) (h3 : IsW hi lo (a + b)) (ra : R128 a) (rb : R128 b)
    (g : ¬ (ah / 9223372036854775808 = 1 ↔ bh / 9223372036854775808 = 1) ∨ (hi / 9223372036854775808 = 1 ↔ ah / 9223372036854775808 = 1)) : R128 (a + b) := by
  unfold IsW at h3; unfold R128 at *; omega
theorem sub_no {ah bh hi lo a b : Int} (h1 : ah / 9223372036854775808 = 1 ↔ a < 0) (h2 : bh / 9223372036854775808 = 1 ↔ b < 0) (h3 : IsW hi lo (a - b)) (ra : R128 a) (rb : R128 b)
    (g1 : ¬ (ah / 9223372036854775808 = 1 ↔ bh / 9223372036854775808 = 1)) (g2 : ¬ (hi / 9223372036854775808 = 1 ↔ ah / 9223372036854775808 = 1)) : ¬ R128 (a - b) := by
  unfold IsW at h3; unfold R128 at *; omega
theorem sub_yes {ah bh hi lo a b : Int} (h1 : ah / 9223372036854775808 = 1 ↔ a < 0) (h2 : bh / 9223372036854775808 = 1 ↔ b < 0) (h3 : IsW hi lo (a - b)) (ra : R128 a) (rb : R128 b)
    (g : (ah / 9223372036854775808 = 1 ↔ bh / 9223372036854775808 = 1) ∨ (hi / 9223372036854775808 = 1 ↔ ah / 9223372036854775808 = 1)) : R128 (a - b) := by
  unfold IsW at h3; unfold R128 at *; omega
theorem neg_r {hi lo a : Int} (h : IsW hi lo (-a)) (ra : R128 a) : (a < 0 ∧ hi / 9223372036854775808 = 1) ↔ ¬ R128 (-a) := by
  unfold IsW at h; unfold R128 at *; omega


set_option maxRecDepth 100000 in
set_option maxHeartbeats 1000000 in
theorem wadd_c {ah al bh bl a b : Int} (h : IsW ah al a) (h' : IsW bh bl b) (ra : R128 a) (rb : R128 b) : Tri Try.prog 105 [.agg #[.int .u64 ah, .int .u64 al], .agg #[.int .u64 bh, .int .u64 bl]] [] [] (RetWo (a + b)) := by
  refine Tri_of (N := 45) Try.func105 rfl ent_105 rfl rfl ?_
  intro w0 S0 T0
  show CJ _ _ _ [(0, _), (1, _)] _ _
  have hb := h.b
  obtain ⟨hb1, hb2, hb3, hb4⟩ := hb
  have hc := h'.b
  obtain ⟨hc1, hc2, hc3, hc4⟩ := hc
  have g1 := h.neg ra
  have g2 := h'.neg rb
  have g3 := add_words h h'
  refine CJ_seq ?_
  refine CJ_reg ?_
  refine LJ_box (cs := #[_, _]) rfl rfl rfl rfl ?_
  intro b1
  refine LJ_box (cs := #[_, _]) rfl rfl rfl rfl ?_
  intro b2
  refine LJ_alloc (cs := #[_, _]) rfl rfl zer_110 rfl ?_
  intro b3
  refine LJ_y rfl rfl (YJ_assign rfl) ?_
  refine LJ_nil ?_
  refine QJ_then ?_
  refine CJ_seq ?_
  refine CJ_reg ?_
  first | refine LJ_y rfl rfl (YJ_fieldOwn rfl fld_110_1 rfl) ?_ | refine LJ_y rfl rfl (YJ_fieldAddr rfl fld_110_1) ?_
  first | refine LJ_y rfl rfl (YJ_loadL rfl tyi_108 (by repeat first | exact .head _ | apply List.Mem.tail) rfl) ?_ | refine LJ_y rfl rfl (YJ_loadFact rfl tyi_108 (by repeat first | exact .head _ | apply List.Mem.tail) rfl) ?_
  first | refine LJ_y rfl rfl (YJ_fieldOwn rfl fld_110_1 rfl) ?_ | refine LJ_y rfl rfl (YJ_fieldAddr rfl fld_110_1) ?_
  first | refine LJ_y rfl rfl (YJ_loadL rfl tyi_108 (by repeat first | exact .head _ | apply List.Mem.tail) rfl) ?_ | refine LJ_y rfl rfl (YJ_loadFact rfl tyi_108 (by repeat first | exact .head _ | apply List.Mem.tail) rfl) ?_
  refine LJ_y rfl rfl (YJ_ext rfl rfl (fun w => add64_run _ _ _ (by omega) (by omega) (by omega) (by omega) w)) ?_
  refine LJ_y rfl rfl (YJ_move rfl) ?_
  refine LJ_y rfl rfl (YJ_extract rfl rfl) ?_
  refine LJ_y rfl rfl (YJ_extract rfl rfl) ?_
  refine LJ_y rfl rfl (YJ_assign rfl) ?_
  refine LJ_y rfl rfl (YJ_assign rfl) ?_
  refine LJ_nil ?_
  refine QJ_then ?_
  refine CJ_seq ?_
  refine CJ_reg ?_
  first | refine LJ_y rfl rfl (YJ_fieldOwn rfl fld_110_0 rfl) ?_ | refine LJ_y rfl rfl (YJ_fieldAddr rfl fld_110_0) ?_
  first | refine LJ_y rfl rfl (YJ_loadL rfl tyi_108 (by repeat first | exact .head _ | apply List.Mem.tail) rfl) ?_ | refine LJ_y rfl rfl (YJ_loadFact rfl tyi_108 (by repeat first | exact .head _ | apply List.Mem.tail) rfl) ?_
  first | refine LJ_y rfl rfl (YJ_fieldOwn rfl fld_110_0 rfl) ?_ | refine LJ_y rfl rfl (YJ_fieldAddr rfl fld_110_0) ?_
  first | refine LJ_y rfl rfl (YJ_loadL rfl tyi_108 (by repeat first | exact .head _ | apply List.Mem.tail) rfl) ?_ | refine LJ_y rfl rfl (YJ_loadFact rfl tyi_108 (by repeat first | exact .head _ | apply List.Mem.tail) rfl) ?_
  refine LJ_y rfl rfl (YJ_move rfl) ?_
  refine LJ_y rfl rfl (YJ_ext rfl rfl (fun w => add64_run _ _ _ (by omega) (by omega) (by omega) (by omega) w)) ?_
  refine LJ_y rfl rfl (YJ_move rfl) ?_
  refine LJ_y rfl rfl (YJ_extract rfl rfl) ?_
  refine LJ_y rfl rfl (YJ_extract rfl rfl) ?_
  refine LJ_y rfl rfl (YJ_assign rfl) ?_
  refine LJ_y rfl rfl (YJ_assign rfl) ?_
  refine LJ_nil ?_
  refine QJ_then ?_
  refine CJ_seq ?_
  refine CJ_reg ?_
  refine LJ_y rfl rfl (YJ_move rfl) ?_
  refine LJ_y rfl rfl (YJ_move rfl) ?_
  refine LJ_y rfl rfl (YJ_build1 (cs := [_, _]) lay_110 rfl rfl rfl) ?_
  refine LJ_alloc (cs := #[_, _]) rfl rfl zer_110 rfl ?_
  intro b4
  refine LJ_store (cs' := #[_, _]) (μ' := [_, _, _, _]) 0 rfl rfl rfl rfl tyi_110 rfl (Nat.le_of_ble_eq_true rfl) rfl rfl rfl ?_
  refine LJ_nil ?_
  refine QJ_then ?_
  refine CJ_seq ?_
  refine CJ_seq ?_
  refine CJ_regD mix (by kernel_rfl) (fun _ _ _ _ _ h => h) _ _ (fun _ h => h) (fun _ h => h) ?_
  first | refine AJ_y 0 rfl (by kernel_rfl) (by kernel_rfl) rfl rfl (YJ_loadN (vs := [_, _]) rfl tyi_110 (by repeat first | exact .head _ | apply List.Mem.tail) rfl rfl) ?_ | refine AJ_y 0 rfl (by kernel_rfl) (by kernel_rfl) rfl rfl (YJ_loadFactN (vs := [_, _]) rfl tyi_110 (by repeat first | exact .head _ | apply List.Mem.tail) rfl rfl) ?_
  first | refine AJ_y 2 rfl (by kernel_rfl) (by kernel_rfl) rfl rfl (YJ_loadN (vs := [_, _]) rfl tyi_110 (by repeat first | exact .head _ | apply List.Mem.tail) rfl rfl) ?_ | refine AJ_y 2 rfl (by kernel_rfl) (by kernel_rfl) rfl rfl (YJ_loadFactN (vs := [_, _]) rfl tyi_110 (by repeat first | exact .head _ | apply List.Mem.tail) rfl rfl) ?_
  refine AJ_call0 1 rfl (by kernel_rfl) rfl rfl rfl rfl rfl (minus_c _ _) (AllIn.sub (by first | exact trivial | exact And.intro (by repeat first | exact .head _ | apply List.Mem.tail) trivial | exact And.intro (by repeat first | exact .head _ | apply List.Mem.tail) (And.intro (by repeat first | exact .head _ | apply List.Mem.tail) trivial))) ?_
  refine AJ_call0 3 rfl (by kernel_rfl) rfl rfl rfl rfl rfl (minus_c _ _) (AllIn.sub (by first | exact trivial | exact And.intro (by repeat first | exact .head _ | apply List.Mem.tail) trivial | exact And.intro (by repeat first | exact .head _ | apply List.Mem.tail) (And.intro (by repeat first | exact .head _ | apply List.Mem.tail) trivial))) ?_
  refine AJ_y 4 rfl (by kernel_rfl) (by kernel_rfl) rfl rfl (YJ_eqb rfl rfl ubool_4) ?_
  refine AJ_y 5 rfl (by kernel_rfl) (by kernel_rfl) rfl rfl (YJ_move rfl) ?_
  refine AJ_boolC (fun h36 => ?_) (fun h36 => ?_)
  · try simp only [decide_eq_true_eq, decide_eq_false_iff_not, Bool.not_eq_true', Bool.not_eq_false', Bool.and_eq_true, Bool.and_eq_false_iff, beq_iff_eq, bne_iff_ne, beq_eq_false_iff_ne, bne_eq_false_iff_eq, ne_eq, decide_eq_decide] at h36
    first | refine AJ_y 6 rfl (by kernel_rfl) (by kernel_rfl) rfl rfl (YJ_loadN (vs := [_, _]) rfl tyi_110 (by repeat first | exact .head _ | apply List.Mem.tail) rfl rfl) ?_ | refine AJ_y 6 rfl (by kernel_rfl) (by kernel_rfl) rfl rfl (YJ_loadFactN (vs := [_, _]) rfl tyi_110 (by repeat first | exact .head _ | apply List.Mem.tail) rfl rfl) ?_
    first | refine AJ_y 8 rfl (by kernel_rfl) (by kernel_rfl) rfl rfl (YJ_loadN (vs := [_, _]) rfl tyi_110 (by repeat first | exact .head _ | apply List.Mem.tail) rfl rfl) ?_ | refine AJ_y 8 rfl (by kernel_rfl) (by kernel_rfl) rfl rfl (YJ_loadFactN (vs := [_, _]) rfl tyi_110 (by repeat first | exact .head _ | apply List.Mem.tail) rfl rfl) ?_
    refine AJ_call0 7 rfl (by kernel_rfl) rfl rfl rfl rfl rfl (minus_c _ _) (AllIn.sub (by first | exact trivial | exact And.intro (by repeat first | exact .head _ | apply List.Mem.tail) trivial | exact And.intro (by repeat first | exact .head _ | apply List.Mem.tail) (And.intro (by repeat first | exact .head _ | apply List.Mem.tail) trivial))) ?_
    refine AJ_call0 9 rfl (by kernel_rfl) rfl rfl rfl rfl rfl (minus_c _ _) (AllIn.sub (by first | exact trivial | exact And.intro (by repeat first | exact .head _ | apply List.Mem.tail) trivial | exact And.intro (by repeat first | exact .head _ | apply List.Mem.tail) (And.intro (by repeat first | exact .head _ | apply List.Mem.tail) trivial))) ?_
    refine AJ_y 10 rfl (by kernel_rfl) (by kernel_rfl) rfl rfl (YJ_neb rfl rfl ubool_4) ?_
    refine AJ_y 11 rfl (by kernel_rfl) (by kernel_rfl) rfl rfl (YJ_pickT rfl rfl) ?_
    refine AJ_done (by kernel_rfl) ?_
    refine QJ_then ?_
    refine CJ_cond rfl (fun h42 => ?_) (fun h42 => ?_)
    · try simp only [decide_eq_true_eq, decide_eq_false_iff_not, Bool.not_eq_true', Bool.not_eq_false', Bool.and_eq_true, Bool.and_eq_false_iff, beq_iff_eq, bne_iff_ne, beq_eq_false_iff_ne, bne_eq_false_iff_eq, ne_eq, decide_eq_decide] at h42
      refine CJ_seq ?_
      refine CJ_reg ?_
      refine LJ_y rfl rfl (YJ_build1 (cs := [_, _]) lay_110 rfl rfl rfl) ?_
      refine LJ_store (cs' := #[_, _]) (μ' := [_, _, _, _]) 1 rfl rfl rfl rfl tyi_110 rfl (Nat.le_of_ble_eq_true rfl) rfl rfl rfl ?_
      refine LJ_y rfl rfl (YJ_assign rfl) ?_
      refine LJ_nil ?_
      refine QJ_then ?_
      refine CJ_ret ?_
      refine QJ_then_ret ?_
      refine QJ_fin (.inl rfl) (μ' := []) (μr := _) (φ' := []) (res_cell_tmp (vs := [_, _]) rfl rfl (by repeat first | exact .head _ | apply List.Mem.tail) tyi_110 rfl rfl) (List.Perm.refl _) (fun _ h => nomatch h) ?_
      exact RetWo_no (add_no g1 g2 g3 ra rb h36 h42)
    · try simp only [decide_eq_true_eq, decide_eq_false_iff_not, Bool.not_eq_true', Bool.not_eq_false', Bool.and_eq_true, Bool.and_eq_false_iff, beq_iff_eq, bne_iff_ne, beq_eq_false_iff_ne, bne_eq_false_iff_eq, ne_eq, decide_eq_decide] at h42
      refine CJ_skip ?_
      refine QJ_then ?_
      refine CJ_seq ?_
      refine CJ_reg ?_
      first | refine LJ_y rfl rfl (YJ_loadN (vs := [_, _]) rfl tyi_110 (by repeat first | exact .head _ | apply List.Mem.tail) rfl rfl) ?_ | refine LJ_y rfl rfl (YJ_loadFactN (vs := [_, _]) rfl tyi_110 (by repeat first | exact .head _ | apply List.Mem.tail) rfl rfl) ?_
      refine LJ_store (cs' := #[_, _]) (μ' := [_, _, _, _]) 1 rfl rfl rfl rfl tyi_110 rfl (Nat.le_of_ble_eq_true rfl) rfl rfl rfl ?_
      refine LJ_y rfl rfl (YJ_assign rfl) ?_
      refine LJ_nil ?_
      refine QJ_then ?_
      refine CJ_ret ?_
      refine QJ_fin (.inl rfl) (μ' := []) (μr := _) (φ' := []) (res_cell_tmp (vs := [_, _]) rfl rfl (by repeat first | exact .head _ | apply List.Mem.tail) tyi_110 rfl rfl) (List.Perm.refl _) (fun _ h => nomatch h) ?_
      exact RetWo_yes g3 (add_yes g1 g2 g3 ra rb (.inr h42))
  · try simp only [decide_eq_true_eq, decide_eq_false_iff_not, Bool.not_eq_true', Bool.not_eq_false', Bool.and_eq_true, Bool.and_eq_false_iff, beq_iff_eq, bne_iff_ne, beq_eq_false_iff_ne, bne_eq_false_iff_eq, ne_eq, decide_eq_decide] at h36
    refine AJ_skip 6 rfl (by kernel_rfl) (by kernel_rfl) rfl rfl ?_
    refine AJ_skip 8 rfl (by kernel_rfl) (by kernel_rfl) rfl rfl ?_
    refine AJ_skip 7 rfl (by kernel_rfl) (by kernel_rfl) rfl rfl ?_
    refine AJ_skip 9 rfl (by kernel_rfl) (by kernel_rfl) rfl rfl ?_
    refine AJ_skip 10 rfl (by kernel_rfl) (by kernel_rfl) rfl rfl ?_
    refine AJ_y 11 rfl (by kernel_rfl) (by kernel_rfl) rfl rfl (YJ_pickF rfl rfl) ?_
    refine AJ_done (by kernel_rfl) ?_
    refine QJ_then ?_
    refine CJ_condF rfl ?_
    refine CJ_skip ?_
    refine QJ_then ?_
    refine CJ_seq ?_
    refine CJ_reg ?_
    first | refine LJ_y rfl rfl (YJ_loadN (vs := [_, _]) rfl tyi_110 (by repeat first | exact .head _ | apply List.Mem.tail) rfl rfl) ?_ | refine LJ_y rfl rfl (YJ_loadFactN (vs := [_, _]) rfl tyi_110 (by repeat first | exact .head _ | apply List.Mem.tail) rfl rfl) ?_
    refine LJ_store (cs' := #[_, _]) (μ' := [_, _, _, _]) 1 rfl rfl rfl rfl tyi_110 rfl (Nat.le_of_ble_eq_true rfl) rfl rfl rfl ?_
    refine LJ_y rfl rfl (YJ_assign rfl) ?_
    refine LJ_nil ?_
    refine QJ_then ?_
    refine CJ_ret ?_
    refine QJ_fin (.inl rfl) (μ' := []) (μr := _) (φ' := []) (res_cell_tmp (vs := [_, _]) rfl rfl (by repeat first | exact .head _ | apply List.Mem.tail) tyi_110 rfl rfl) (List.Perm.refl _) (fun _ h => nomatch h) ?_
    exact RetWo_yes g3 (add_yes g1 g2 g3 ra rb (.inl h36))

set_option maxRecDepth 100000 in
set_option maxHeartbeats 1000000 in
theorem wsub_c {ah al bh bl a b : Int} (h : IsW ah al a) (h' : IsW bh bl b) (ra : R128 a) (rb : R128 b) : Tri Try.prog 103 [.agg #[.int .u64 ah, .int .u64 al], .agg #[.int .u64 bh, .int .u64 bl]] [] [] (RetWo (a - b)) := by
  refine Tri_of (N := 45) Try.func103 rfl ent_103 rfl rfl ?_
  intro w0 S0 T0
  show CJ _ _ _ [(0, _), (1, _)] _ _
  have hb := h.b
  obtain ⟨hb1, hb2, hb3, hb4⟩ := hb
  have hc := h'.b
  obtain ⟨hc1, hc2, hc3, hc4⟩ := hc
  have g1 := h.neg ra
  have g2 := h'.neg rb
  have g3 := sub_words h h'
  refine CJ_seq ?_
  refine CJ_reg ?_
  refine LJ_box (cs := #[_, _]) rfl rfl rfl rfl ?_
  intro b1
  refine LJ_box (cs := #[_, _]) rfl rfl rfl rfl ?_
  intro b2
  refine LJ_alloc (cs := #[_, _]) rfl rfl zer_110 rfl ?_
  intro b3
  refine LJ_y rfl rfl (YJ_assign rfl) ?_
  refine LJ_nil ?_
  refine QJ_then ?_
  refine CJ_seq ?_
  refine CJ_reg ?_
  first | refine LJ_y rfl rfl (YJ_fieldOwn rfl fld_110_1 rfl) ?_ | refine LJ_y rfl rfl (YJ_fieldAddr rfl fld_110_1) ?_
  first | refine LJ_y rfl rfl (YJ_loadL rfl tyi_108 (by repeat first | exact .head _ | apply List.Mem.tail) rfl) ?_ | refine LJ_y rfl rfl (YJ_loadFact rfl tyi_108 (by repeat first | exact .head _ | apply List.Mem.tail) rfl) ?_
  first | refine LJ_y rfl rfl (YJ_fieldOwn rfl fld_110_1 rfl) ?_ | refine LJ_y rfl rfl (YJ_fieldAddr rfl fld_110_1) ?_
  first | refine LJ_y rfl rfl (YJ_loadL rfl tyi_108 (by repeat first | exact .head _ | apply List.Mem.tail) rfl) ?_ | refine LJ_y rfl rfl (YJ_loadFact rfl tyi_108 (by repeat first | exact .head _ | apply List.Mem.tail) rfl) ?_
  refine LJ_y rfl rfl (YJ_ext rfl rfl (fun w => sub64_run' _ _ _ (by omega) (by omega) (by omega) (by omega) (by omega) (by omega) w)) ?_
  refine LJ_y rfl rfl (YJ_move rfl) ?_
  refine LJ_y rfl rfl (YJ_extract rfl rfl) ?_
  refine LJ_y rfl rfl (YJ_extract rfl rfl) ?_
  refine LJ_y rfl rfl (YJ_assign rfl) ?_
  refine LJ_y rfl rfl (YJ_assign rfl) ?_
  refine LJ_nil ?_
  refine QJ_then ?_
  refine CJ_seq ?_
  refine CJ_reg ?_
  first | refine LJ_y rfl rfl (YJ_fieldOwn rfl fld_110_0 rfl) ?_ | refine LJ_y rfl rfl (YJ_fieldAddr rfl fld_110_0) ?_
  first | refine LJ_y rfl rfl (YJ_loadL rfl tyi_108 (by repeat first | exact .head _ | apply List.Mem.tail) rfl) ?_ | refine LJ_y rfl rfl (YJ_loadFact rfl tyi_108 (by repeat first | exact .head _ | apply List.Mem.tail) rfl) ?_
  first | refine LJ_y rfl rfl (YJ_fieldOwn rfl fld_110_0 rfl) ?_ | refine LJ_y rfl rfl (YJ_fieldAddr rfl fld_110_0) ?_
  first | refine LJ_y rfl rfl (YJ_loadL rfl tyi_108 (by repeat first | exact .head _ | apply List.Mem.tail) rfl) ?_ | refine LJ_y rfl rfl (YJ_loadFact rfl tyi_108 (by repeat first | exact .head _ | apply List.Mem.tail) rfl) ?_
  refine LJ_y rfl rfl (YJ_move rfl) ?_
  refine LJ_y rfl rfl (YJ_ext rfl rfl (fun w => sub64_run' _ _ _ (by omega) (by omega) (by omega) (by omega) (by omega) (by omega) w)) ?_
  refine LJ_y rfl rfl (YJ_move rfl) ?_
  refine LJ_y rfl rfl (YJ_extract rfl rfl) ?_
  refine LJ_y rfl rfl (YJ_extract rfl rfl) ?_
  refine LJ_y rfl rfl (YJ_assign rfl) ?_
  refine LJ_y rfl rfl (YJ_assign rfl) ?_
  refine LJ_nil ?_
  refine QJ_then ?_
  refine CJ_seq ?_
  refine CJ_reg ?_
  refine LJ_y rfl rfl (YJ_move rfl) ?_
  refine LJ_y rfl rfl (YJ_move rfl) ?_
  refine LJ_y rfl rfl (YJ_build1 (cs := [_, _]) lay_110 rfl rfl rfl) ?_
  refine LJ_alloc (cs := #[_, _]) rfl rfl zer_110 rfl ?_
  intro b4
  refine LJ_store (cs' := #[_, _]) (μ' := [_, _, _, _]) 0 rfl rfl rfl rfl tyi_110 rfl (Nat.le_of_ble_eq_true rfl) rfl rfl rfl ?_
  refine LJ_nil ?_
  refine QJ_then ?_
  refine CJ_seq ?_
  refine CJ_seq ?_
  refine CJ_regD mix (by kernel_rfl) (fun _ _ _ _ _ h => h) _ _ (fun _ h => h) (fun _ h => h) ?_
  first | refine AJ_y 0 rfl (by kernel_rfl) (by kernel_rfl) rfl rfl (YJ_loadN (vs := [_, _]) rfl tyi_110 (by repeat first | exact .head _ | apply List.Mem.tail) rfl rfl) ?_ | refine AJ_y 0 rfl (by kernel_rfl) (by kernel_rfl) rfl rfl (YJ_loadFactN (vs := [_, _]) rfl tyi_110 (by repeat first | exact .head _ | apply List.Mem.tail) rfl rfl) ?_
  first | refine AJ_y 2 rfl (by kernel_rfl) (by kernel_rfl) rfl rfl (YJ_loadN (vs := [_, _]) rfl tyi_110 (by repeat first | exact .head _ | apply List.Mem.tail) rfl rfl) ?_ | refine AJ_y 2 rfl (by kernel_rfl) (by kernel_rfl) rfl rfl (YJ_loadFactN (vs := [_, _]) rfl tyi_110 (by repeat first | exact .head _ | apply List.Mem.tail) rfl rfl) ?_
  refine AJ_call0 1 rfl (by kernel_rfl) rfl rfl rfl rfl rfl (minus_c _ _) (AllIn.sub (by first | exact trivial | exact And.intro (by repeat first | exact .head _ | apply List.Mem.tail) trivial | exact And.intro (by repeat first | exact .head _ | apply List.Mem.tail) (And.intro (by repeat first | exact .head _ | apply List.Mem.tail) trivial))) ?_
  refine AJ_call0 3 rfl (by kernel_rfl) rfl rfl rfl rfl rfl (minus_c _ _) (AllIn.sub (by first | exact trivial | exact And.intro (by repeat first | exact .head _ | apply List.Mem.tail) trivial | exact And.intro (by repeat first | exact .head _ | apply List.Mem.tail) (And.intro (by repeat first | exact .head _ | apply List.Mem.tail) trivial))) ?_
  refine AJ_y 4 rfl (by kernel_rfl) (by kernel_rfl) rfl rfl (YJ_neb rfl rfl ubool_4) ?_
  refine AJ_y 5 rfl (by kernel_rfl) (by kernel_rfl) rfl rfl (YJ_move rfl) ?_
  refine AJ_boolC (fun h36 => ?_) (fun h36 => ?_)
  · try simp only [decide_eq_true_eq, decide_eq_false_iff_not, Bool.not_eq_true', Bool.not_eq_false', Bool.and_eq_true, Bool.and_eq_false_iff, beq_iff_eq, bne_iff_ne, beq_eq_false_iff_ne, bne_eq_false_iff_eq, ne_eq, decide_eq_decide] at h36
    first | refine AJ_y 6 rfl (by kernel_rfl) (by kernel_rfl) rfl rfl (YJ_loadN (vs := [_, _]) rfl tyi_110 (by repeat first | exact .head _ | apply List.Mem.tail) rfl rfl) ?_ | refine AJ_y 6 rfl (by kernel_rfl) (by kernel_rfl) rfl rfl (YJ_loadFactN (vs := [_, _]) rfl tyi_110 (by repeat first | exact .head _ | apply List.Mem.tail) rfl rfl) ?_
    first | refine AJ_y 8 rfl (by kernel_rfl) (by kernel_rfl) rfl rfl (YJ_loadN (vs := [_, _]) rfl tyi_110 (by repeat first | exact .head _ | apply List.Mem.tail) rfl rfl) ?_ | refine AJ_y 8 rfl (by kernel_rfl) (by kernel_rfl) rfl rfl (YJ_loadFactN (vs := [_, _]) rfl tyi_110 (by repeat first | exact .head _ | apply List.Mem.tail) rfl rfl) ?_
    refine AJ_call0 7 rfl (by kernel_rfl) rfl rfl rfl rfl rfl (minus_c _ _) (AllIn.sub (by first | exact trivial | exact And.intro (by repeat first | exact .head _ | apply List.Mem.tail) trivial | exact And.intro (by repeat first | exact .head _ | apply List.Mem.tail) (And.intro (by repeat first | exact .head _ | apply List.Mem.tail) trivial))) ?_
    refine AJ_call0 9 rfl (by kernel_rfl) rfl rfl rfl rfl rfl (minus_c _ _) (AllIn.sub (by first | exact trivial | exact And.intro (by repeat first | exact .head _ | apply List.Mem.tail) trivial | exact And.intro (by repeat first | exact .head _ | apply List.Mem.tail) (And.intro (by repeat first | exact .head _ | apply List.Mem.tail) trivial))) ?_
    refine AJ_y 10 rfl (by kernel_rfl) (by kernel_rfl) rfl rfl (YJ_neb rfl rfl ubool_4) ?_
    refine AJ_y 11 rfl (by kernel_rfl) (by kernel_rfl) rfl rfl (YJ_pickT rfl rfl) ?_
    refine AJ_done (by kernel_rfl) ?_
    refine QJ_then ?_
    refine CJ_cond rfl (fun h42 => ?_) (fun h42 => ?_)
    · try simp only [decide_eq_true_eq, decide_eq_false_iff_not, Bool.not_eq_true', Bool.not_eq_false', Bool.and_eq_true, Bool.and_eq_false_iff, beq_iff_eq, bne_iff_ne, beq_eq_false_iff_ne, bne_eq_false_iff_eq, ne_eq, decide_eq_decide] at h42
      refine CJ_seq ?_
      refine CJ_reg ?_
      refine LJ_y rfl rfl (YJ_build1 (cs := [_, _]) lay_110 rfl rfl rfl) ?_
      refine LJ_store (cs' := #[_, _]) (μ' := [_, _, _, _]) 1 rfl rfl rfl rfl tyi_110 rfl (Nat.le_of_ble_eq_true rfl) rfl rfl rfl ?_
      refine LJ_y rfl rfl (YJ_assign rfl) ?_
      refine LJ_nil ?_
      refine QJ_then ?_
      refine CJ_ret ?_
      refine QJ_then_ret ?_
      refine QJ_fin (.inl rfl) (μ' := []) (μr := _) (φ' := []) (res_cell_tmp (vs := [_, _]) rfl rfl (by repeat first | exact .head _ | apply List.Mem.tail) tyi_110 rfl rfl) (List.Perm.refl _) (fun _ h => nomatch h) ?_
      exact RetWo_no (sub_no g1 g2 g3 ra rb h36 h42)
    · try simp only [decide_eq_true_eq, decide_eq_false_iff_not, Bool.not_eq_true', Bool.not_eq_false', Bool.and_eq_true, Bool.and_eq_false_iff, beq_iff_eq, bne_iff_ne, beq_eq_false_iff_ne, bne_eq_false_iff_eq, ne_eq, decide_eq_decide] at h42
      refine CJ_skip ?_
      refine QJ_then ?_
      refine CJ_seq ?_
      refine CJ_reg ?_
      first | refine LJ_y rfl rfl (YJ_loadN (vs := [_, _]) rfl tyi_110 (by repeat first | exact .head _ | apply List.Mem.tail) rfl rfl) ?_ | refine LJ_y rfl rfl (YJ_loadFactN (vs := [_, _]) rfl tyi_110 (by repeat first | exact .head _ | apply List.Mem.tail) rfl rfl) ?_
      refine LJ_store (cs' := #[_, _]) (μ' := [_, _, _, _]) 1 rfl rfl rfl rfl tyi_110 rfl (Nat.le_of_ble_eq_true rfl) rfl rfl rfl ?_
      refine LJ_y rfl rfl (YJ_assign rfl) ?_
      refine LJ_nil ?_
      refine QJ_then ?_
      refine CJ_ret ?_
      refine QJ_fin (.inl rfl) (μ' := []) (μr := _) (φ' := []) (res_cell_tmp (vs := [_, _]) rfl rfl (by repeat first | exact .head _ | apply List.Mem.tail) tyi_110 rfl rfl) (List.Perm.refl _) (fun _ h => nomatch h) ?_
      exact RetWo_yes g3 (sub_yes g1 g2 g3 ra rb (.inr h42))
  · try simp only [decide_eq_true_eq, decide_eq_false_iff_not, Bool.not_eq_true', Bool.not_eq_false', Bool.and_eq_true, Bool.and_eq_false_iff, beq_iff_eq, bne_iff_ne, beq_eq_false_iff_ne, bne_eq_false_iff_eq, ne_eq, decide_eq_decide] at h36
    refine AJ_skip 6 rfl (by kernel_rfl) (by kernel_rfl) rfl rfl ?_
    refine AJ_skip 8 rfl (by kernel_rfl) (by kernel_rfl) rfl rfl ?_
    refine AJ_skip 7 rfl (by kernel_rfl) (by kernel_rfl) rfl rfl ?_
    refine AJ_skip 9 rfl (by kernel_rfl) (by kernel_rfl) rfl rfl ?_
    refine AJ_skip 10 rfl (by kernel_rfl) (by kernel_rfl) rfl rfl ?_
    refine AJ_y 11 rfl (by kernel_rfl) (by kernel_rfl) rfl rfl (YJ_pickF rfl rfl) ?_
    refine AJ_done (by kernel_rfl) ?_
    refine QJ_then ?_
    refine CJ_condF rfl ?_
    refine CJ_skip ?_
    refine QJ_then ?_
    refine CJ_seq ?_
    refine CJ_reg ?_
    first | refine LJ_y rfl rfl (YJ_loadN (vs := [_, _]) rfl tyi_110 (by repeat first | exact .head _ | apply List.Mem.tail) rfl rfl) ?_ | refine LJ_y rfl rfl (YJ_loadFactN (vs := [_, _]) rfl tyi_110 (by repeat first | exact .head _ | apply List.Mem.tail) rfl rfl) ?_
    refine LJ_store (cs' := #[_, _]) (μ' := [_, _, _, _]) 1 rfl rfl rfl rfl tyi_110 rfl (Nat.le_of_ble_eq_true rfl) rfl rfl rfl ?_
    refine LJ_y rfl rfl (YJ_assign rfl) ?_
    refine LJ_nil ?_
    refine QJ_then ?_
    refine CJ_ret ?_
    refine QJ_fin (.inl rfl) (μ' := []) (μr := _) (φ' := []) (res_cell_tmp (vs := [_, _]) rfl rfl (by repeat first | exact .head _ | apply List.Mem.tail) tyi_110 rfl rfl) (List.Perm.refl _) (fun _ h => nomatch h) ?_
    exact RetWo_yes g3 (sub_yes g1 g2 g3 ra rb (.inl h36))

end Go.Proofs.Ytbanlhlggkdanaa
