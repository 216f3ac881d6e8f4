/- The walk of wide.Times. -/
import Derived.Test.YtbanlhlggkdanaaW3
set_option linter.unusedSimpArgs false
set_option linter.unusedVariables false
namespace Go.Proofs.Ytbanlhlggkdanaa
open Go.RowKit

theorem ent_104 : Enter Try.prog 104 = true := by kernel_rfl


theorem iop_addu {a b : Int} (h : 0 ≤ a + b ∧ a + b < 18446744073709551616) : iop .add .u64 a b = some (.int .u64 (a + b)) := by
  simp only [iop, IntKind.wrap_u64]; congr 2; omega
theorem times_core {H L A k : Int} (h : IsW H L A) (h0 : 0 ≤ A) (h1 : A ≤ 170141183460469231731687303715884105728) (k0 : 0 ≤ k) (k1 : k ≤ 9223372036854775808) :
    0 ≤ H * k ∧ H * k ≤ 85070591730234615865843651857942052864 ∧ 0 ≤ L * k ∧ L * k < 170141183460469231731687303715884105728 ∧ A * k = (H * k) * 18446744073709551616 + L * k := by
  unfold IsW at h
  have hH : 0 ≤ H ∧ H ≤ 9223372036854775808 := by omega
  have hL : 0 ≤ L ∧ L ≤ 18446744073709551615 := by omega
  have e : A = H * 18446744073709551616 + L := by omega
  have m1 := Int.mul_le_mul hH.2 k1 k0 (by omega)
  have m2 := Int.mul_le_mul hL.2 k1 k0 (by omega)
  have m3 := Int.mul_nonneg hH.1 k0
  have m4 := Int.mul_nonneg hL.1 k0
  refine ⟨m3, by omega, m4, by omega, ?_⟩
  rw [e, Int.add_mul, Int.mul_assoc, Int.mul_comm 18446744073709551616 k, ← Int.mul_assoc]
theorem times_words {u v P : Int} (h0 : 0 ≤ u) (h1 : u ≤ 85070591730234615865843651857942052864) (h2 : 0 ≤ v) (h3 : v < 170141183460469231731687303715884105728) (e : P = u * 18446744073709551616 + v) :
    IsW ((u % 18446744073709551616 + v / 18446744073709551616 + 0) % 18446744073709551616) (v % 18446744073709551616) P ∧ (u / 18446744073709551616 + (u % 18446744073709551616 + v / 18446744073709551616 + 0) / 18446744073709551616 = P / 340282366920938463463374607431768211456) ∧ 0 ≤ P := by
  unfold IsW
  omega
theorem times_big {p t o : Int} {c : Prop} [Decidable c] (q7 : o = p / 340282366920938463463374607431768211456) (q10 : p = if c then t else -t) (h : 0 < o) : ¬ R128 t := by
  unfold R128; split at q10 <;> omega
theorem times_dy {p t o hi lo b : Int} {c : Prop} [Decidable c] (q7 : o = p / 340282366920938463463374607431768211456) (q8 : 0 ≤ p) (q10 : p = if c then t else -t) (h : ¬ 0 < o) (hc : ¬ c) (ht : IsW hi lo (-p)) (g : hi / 9223372036854775808 = 1 ∨ (hi = 0 ∧ lo = 0)) (hb : b = t) : R128 b ∧ IsW hi lo b := by
  subst hb
  rw [if_neg hc] at q10
  unfold IsW at *; unfold R128; omega
theorem times_dn {p t o hi lo : Int} {c : Prop} [Decidable c] (q7 : o = p / 340282366920938463463374607431768211456) (q8 : 0 ≤ p) (q10 : p = if c then t else -t) (h : ¬ 0 < o) (hc : ¬ c) (ht : IsW hi lo (-p)) (g : ¬ hi / 9223372036854775808 = 1 ∧ (¬ hi = 0 ∨ ¬ lo = 0)) : ¬ R128 t := by
  rw [if_neg hc] at q10
  unfold IsW at *; unfold R128; omega
theorem times_uy {p t o hi lo : Int} {c : Prop} [Decidable c] (q7 : o = p / 340282366920938463463374607431768211456) (q8 : 0 ≤ p) (q10 : p = if c then t else -t) (h : ¬ 0 < o) (hc : c) (ht : IsW hi lo p) (g : ¬ hi / 9223372036854775808 = 1) : R128 t ∧ IsW hi lo t := by
  rw [if_pos hc] at q10
  unfold IsW at *; unfold R128; omega
theorem times_un {p t o hi lo : Int} {c : Prop} [Decidable c] (q7 : o = p / 340282366920938463463374607431768211456) (q8 : 0 ≤ p) (q10 : p = if c then t else -t) (h : ¬ 0 < o) (hc : c) (ht : IsW hi lo p) (g : hi / 9223372036854775808 = 1) : ¬ R128 t := by
  rw [if_pos hc] at q10
  unfold IsW at *; unfold R128; omega
theorem RetWo_yes' {n hi lo : Int} (h : R128 n ∧ IsW hi lo n) : RetWo n (.tuple #[.agg #[.int .u64 hi, .int .u64 lo], .bool true]) [] [] := RetWo_yes h.2 h.1


set_option maxRecDepth 100000 in
set_option maxHeartbeats 4000000 in
theorem wtimes_c {hi lo a n : Int} (h : IsW hi lo a) (ra : R128 a) (hn : I64 n) : Tri Try.prog 104 [.agg #[.int .u64 hi, .int .u64 lo], .int .i64 n] [] [] (RetWo (a * n)) := by
  refine Tri_of (N := 76) Try.func104 rfl ent_104 rfl rfl ?_
  intro w0 S0 T0
  show CJ _ _ _ [(0, _), (1, _)] _ _
  have g1 := h.neg ra
  have hb := h.b
  refine CJ_seq ?_
  refine CJ_reg ?_
  refine LJ_box (cs := #[_, _]) rfl rfl rfl rfl ?_
  intro b1
  refine LJ_alloc (cs := #[_, _]) rfl rfl zer_110 rfl ?_
  intro b2
  refine LJ_y rfl rfl (YJ_assign rfl) ?_
  refine LJ_nil ?_
  refine QJ_then ?_
  refine CJ_seq ?_
  refine CJ_reg ?_
  first | refine LJ_y rfl rfl (YJ_loadN (vs := [_, _]) rfl tyi_110 (by repeat first | exact .head _ | apply List.Mem.tail) rfl rfl) ?_ | refine LJ_y rfl rfl (YJ_loadFactN (vs := [_, _]) rfl tyi_110 (by repeat first | exact .head _ | apply List.Mem.tail) rfl rfl) ?_
  refine LJ_call0 rfl rfl rfl rfl rfl (minus_c _ _) (AllIn.sub (by first | exact trivial | exact And.intro (by repeat first | exact .head _ | apply List.Mem.tail) trivial | exact And.intro (by repeat first | exact .head _ | apply List.Mem.tail) (And.intro (by repeat first | exact .head _ | apply List.Mem.tail) trivial))) ?_
  refine LJ_y rfl rfl (YJ_move rfl) ?_
  refine LJ_y rfl rfl (YJ_bin rfl rfl rfl) ?_
  refine LJ_y rfl rfl (YJ_neb rfl rfl ubool_4) ?_
  refine LJ_y rfl rfl (YJ_assign rfl) ?_
  refine LJ_nil ?_
  refine QJ_then ?_
  refine CJ_seq ?_
  refine CJ_seq ?_
  refine CJ_reg ?_
  first | refine LJ_y rfl rfl (YJ_loadN (vs := [_, _]) rfl tyi_110 (by repeat first | exact .head _ | apply List.Mem.tail) rfl rfl) ?_ | refine LJ_y rfl rfl (YJ_loadFactN (vs := [_, _]) rfl tyi_110 (by repeat first | exact .head _ | apply List.Mem.tail) rfl rfl) ?_
  refine LJ_call0 rfl rfl rfl rfl rfl (minus_c _ _) (AllIn.sub (by first | exact trivial | exact And.intro (by repeat first | exact .head _ | apply List.Mem.tail) trivial | exact And.intro (by repeat first | exact .head _ | apply List.Mem.tail) (And.intro (by repeat first | exact .head _ | apply List.Mem.tail) trivial))) ?_
  refine LJ_nil ?_
  refine QJ_then ?_
  refine CJ_cond rfl (fun h20 => ?_) (fun h20 => ?_)
  · try simp only [decide_eq_true_eq, decide_eq_false_iff_not, Bool.not_eq_true', Bool.not_eq_false', Bool.and_eq_true, Bool.and_eq_false_iff, beq_iff_eq, bne_iff_ne, beq_eq_false_iff_ne, bne_eq_false_iff_eq, ne_eq, decide_eq_decide] at h20
    refine CJ_reg ?_
    first | refine LJ_y rfl rfl (YJ_loadN (vs := [_, _]) rfl tyi_110 (by repeat first | exact .head _ | apply List.Mem.tail) rfl rfl) ?_ | refine LJ_y rfl rfl (YJ_loadFactN (vs := [_, _]) rfl tyi_110 (by repeat first | exact .head _ | apply List.Mem.tail) rfl rfl) ?_
    refine LJ_callX rfl rfl rfl rfl rfl (turn_c h) (AllIn.sub (by first | exact trivial | exact And.intro (by repeat first | exact .head _ | apply List.Mem.tail) trivial | exact And.intro (by repeat first | exact .head _ | apply List.Mem.tail) (And.intro (by repeat first | exact .head _ | apply List.Mem.tail) trivial))) ?_
    rintro ⟨hi1, lo1⟩ ht
    have hb1 := ht.b
    refine LJ_store (cs' := #[_, _]) (μ' := [_, _]) 1 rfl rfl rfl rfl tyi_110 rfl (Nat.le_of_ble_eq_true rfl) rfl rfl rfl ?_
    refine LJ_nil ?_
    refine QJ_then ?_
    refine CJ_seq ?_
    refine CJ_reg ?_
    refine LJ_y rfl rfl (YJ_move rfl) ?_
    refine LJ_call0 rfl rfl rfl rfl rfl (abs_c hn) (AllIn.sub (by first | exact trivial | exact And.intro (by repeat first | exact .head _ | apply List.Mem.tail) trivial | exact And.intro (by repeat first | exact .head _ | apply List.Mem.tail) (And.intro (by repeat first | exact .head _ | apply List.Mem.tail) trivial))) ?_
    refine LJ_y rfl rfl (YJ_assign rfl) ?_
    have k0 : (0 : Int) ≤ n.natAbs ∧ (n.natAbs : Int) ≤ 9223372036854775808 := by unfold I64 at hn; omega
    have q := times_core (A := -a) (k := n.natAbs) ht (by unfold R128 at ra; omega) (by unfold R128 at ra; omega) k0.1 k0.2
    obtain ⟨q1, q2, q3, q4, q5⟩ := q
    have q6 := times_words q1 q2 q3 q4 q5
    obtain ⟨q6, q7, q8⟩ := q6
    have q9 : (-a) = (a.natAbs : Int) := by omega
    rw [q9] at q6 q7 q8
    have q10 := pabs a n
    refine LJ_nil ?_
    refine QJ_then ?_
    refine CJ_seq ?_
    refine CJ_reg ?_
    first | refine LJ_y rfl rfl (YJ_fieldOwn rfl fld_110_0 rfl) ?_ | refine LJ_y rfl rfl (YJ_fieldAddr rfl fld_110_0) ?_
    first | refine LJ_y rfl rfl (YJ_loadL rfl tyi_108 (by repeat first | exact .head _ | apply List.Mem.tail) rfl) ?_ | refine LJ_y rfl rfl (YJ_loadFact rfl tyi_108 (by repeat first | exact .head _ | apply List.Mem.tail) rfl) ?_
    refine LJ_y rfl rfl (YJ_move rfl) ?_
    refine LJ_call0 rfl rfl rfl rfl rfl (mul64_c _ _ (by omega) (by omega) (by omega) (by omega)) (AllIn.sub (by first | exact trivial | exact And.intro (by repeat first | exact .head _ | apply List.Mem.tail) trivial | exact And.intro (by repeat first | exact .head _ | apply List.Mem.tail) (And.intro (by repeat first | exact .head _ | apply List.Mem.tail) trivial))) ?_
    refine LJ_y rfl rfl (YJ_move rfl) ?_
    refine LJ_y rfl rfl (YJ_extract rfl rfl) ?_
    refine LJ_y rfl rfl (YJ_extract rfl rfl) ?_
    refine LJ_y rfl rfl (YJ_assign rfl) ?_
    refine LJ_y rfl rfl (YJ_assign rfl) ?_
    refine LJ_nil ?_
    refine QJ_then ?_
    refine CJ_seq ?_
    refine CJ_reg ?_
    first | refine LJ_y rfl rfl (YJ_fieldOwn rfl fld_110_1 rfl) ?_ | refine LJ_y rfl rfl (YJ_fieldAddr rfl fld_110_1) ?_
    first | refine LJ_y rfl rfl (YJ_loadL rfl tyi_108 (by repeat first | exact .head _ | apply List.Mem.tail) rfl) ?_ | refine LJ_y rfl rfl (YJ_loadFact rfl tyi_108 (by repeat first | exact .head _ | apply List.Mem.tail) rfl) ?_
    refine LJ_y rfl rfl (YJ_move rfl) ?_
    refine LJ_call0 rfl rfl rfl rfl rfl (mul64_c _ _ (by omega) (by omega) (by omega) (by omega)) (AllIn.sub (by first | exact trivial | exact And.intro (by repeat first | exact .head _ | apply List.Mem.tail) trivial | exact And.intro (by repeat first | exact .head _ | apply List.Mem.tail) (And.intro (by repeat first | exact .head _ | apply List.Mem.tail) trivial))) ?_
    refine LJ_y rfl rfl (YJ_move rfl) ?_
    refine LJ_y rfl rfl (YJ_extract rfl rfl) ?_
    refine LJ_y rfl rfl (YJ_extract rfl rfl) ?_
    refine LJ_y rfl rfl (YJ_assign rfl) ?_
    refine LJ_y rfl rfl (YJ_assign rfl) ?_
    refine LJ_nil ?_
    refine QJ_then ?_
    refine CJ_seq ?_
    refine CJ_reg ?_
    refine LJ_y rfl rfl (YJ_move rfl) ?_
    refine LJ_y rfl rfl (YJ_move rfl) ?_
    refine LJ_y rfl rfl (YJ_ext rfl rfl (fun w => add64_run _ _ _ (by omega) (by omega) (by omega) (by omega) w)) ?_
    refine LJ_y rfl rfl (YJ_move rfl) ?_
    refine LJ_y rfl rfl (YJ_extract rfl rfl) ?_
    refine LJ_y rfl rfl (YJ_extract rfl rfl) ?_
    refine LJ_y rfl rfl (YJ_assign rfl) ?_
    refine LJ_y rfl rfl (YJ_assign rfl) ?_
    refine LJ_nil ?_
    refine QJ_then ?_
    refine CJ_seq ?_
    refine CJ_reg ?_
    refine LJ_y rfl rfl (YJ_move rfl) ?_
    refine LJ_y rfl rfl (YJ_move rfl) ?_
    refine LJ_y rfl rfl (YJ_build1 (cs := [_, _]) lay_110 rfl rfl rfl) ?_
    refine LJ_alloc (cs := #[_, _]) rfl rfl zer_110 rfl ?_
    intro b3
    refine LJ_store (cs' := #[_, _]) (μ' := [_, _, _]) 0 rfl rfl rfl rfl tyi_110 rfl (Nat.le_of_ble_eq_true rfl) rfl rfl rfl ?_
    refine LJ_nil ?_
    refine QJ_then ?_
    refine CJ_seq ?_
    refine CJ_block ?_
    refine CJ_seq ?_
    refine CJ_reg ?_
    refine LJ_y rfl rfl (YJ_move rfl) ?_
    refine LJ_y rfl rfl (YJ_move rfl) ?_
    refine LJ_y rfl rfl (YJ_bin rfl rfl (iop_addu (by omega))) ?_
    refine LJ_y rfl rfl (YJ_bin rfl rfl rfl) ?_
    refine LJ_y rfl rfl (YJ_assign rfl) ?_
    refine LJ_nil ?_
    refine QJ_then ?_
    refine CJ_cond rfl (fun h48 => ?_) (fun h48 => ?_)
    · try simp only [decide_eq_true_eq, decide_eq_false_iff_not, Bool.not_eq_true', Bool.not_eq_false', Bool.and_eq_true, Bool.and_eq_false_iff, beq_iff_eq, bne_iff_ne, beq_eq_false_iff_ne, bne_eq_false_iff_eq, ne_eq, decide_eq_decide] at h48
      refine CJ_seq ?_
      refine CJ_reg ?_
      refine LJ_y rfl rfl (YJ_build1 (cs := [_, _]) lay_110 rfl rfl rfl) ?_
      refine LJ_store (cs' := #[_, _]) (μ' := [_, _, _]) 1 rfl rfl rfl rfl tyi_110 rfl (Nat.le_of_ble_eq_true rfl) rfl rfl rfl ?_
      refine LJ_y rfl rfl (YJ_assign rfl) ?_
      refine LJ_nil ?_
      refine QJ_then ?_
      refine CJ_ret ?_
      refine QJ_in_ret ?_
      refine QJ_then_ret ?_
      refine QJ_fin (.inl rfl) (μ' := []) (μr := _) (φ' := []) (res_cell_tmp (vs := [_, _]) rfl rfl (by repeat first | exact .head _ | apply List.Mem.tail) tyi_110 rfl rfl) (List.Perm.refl _) (fun _ h => nomatch h) ?_
      exact RetWo_no (times_big q7 q10 h48)
    · try simp only [decide_eq_true_eq, decide_eq_false_iff_not, Bool.not_eq_true', Bool.not_eq_false', Bool.and_eq_true, Bool.and_eq_false_iff, beq_iff_eq, bne_iff_ne, beq_eq_false_iff_ne, bne_eq_false_iff_eq, ne_eq, decide_eq_decide] at h48
      refine CJ_seq ?_
      refine CJ_reg ?_
      refine LJ_y rfl rfl (YJ_move rfl) ?_
      refine LJ_y rfl rfl (YJ_assign rfl) ?_
      refine LJ_nil ?_
      refine QJ_then ?_
      refine CJ_cond rfl (fun h54 => ?_) (fun h54 => ?_)
      · try simp only [decide_eq_true_eq, decide_eq_false_iff_not, Bool.not_eq_true', Bool.not_eq_false', Bool.and_eq_true, Bool.and_eq_false_iff, beq_iff_eq, bne_iff_ne, beq_eq_false_iff_ne, bne_eq_false_iff_eq, ne_eq, decide_eq_decide] at h54
        refine CJ_seq ?_
        refine CJ_reg ?_
        first | refine LJ_y rfl rfl (YJ_loadN (vs := [_, _]) rfl tyi_110 (by repeat first | exact .head _ | apply List.Mem.tail) rfl rfl) ?_ | refine LJ_y rfl rfl (YJ_loadFactN (vs := [_, _]) rfl tyi_110 (by repeat first | exact .head _ | apply List.Mem.tail) rfl rfl) ?_
        refine LJ_callX rfl rfl rfl rfl rfl (turn_c q6) (AllIn.sub (by first | exact trivial | exact And.intro (by repeat first | exact .head _ | apply List.Mem.tail) trivial | exact And.intro (by repeat first | exact .head _ | apply List.Mem.tail) (And.intro (by repeat first | exact .head _ | apply List.Mem.tail) trivial))) ?_
        rintro ⟨hi2, lo2⟩ ht2
        refine LJ_store (cs' := #[_, _]) (μ' := [_, _, _]) 0 rfl rfl rfl rfl tyi_110 rfl (Nat.le_of_ble_eq_true rfl) rfl rfl rfl ?_
        refine LJ_nil ?_
        refine QJ_then ?_
        refine CJ_seq ?_
        refine CJ_regD mix (by kernel_rfl) (fun _ _ _ _ _ h => h) (selR [0, 2] _) _ (selR_sub _ _) (fun _ h => h) ?_
        first | refine AJ_y 0 rfl (by kernel_rfl) (by kernel_rfl) rfl rfl (YJ_loadN (vs := [_, _]) rfl tyi_110 (by repeat first | exact .head _ | apply List.Mem.tail) rfl rfl) ?_ | refine AJ_y 0 rfl (by kernel_rfl) (by kernel_rfl) rfl rfl (YJ_loadFactN (vs := [_, _]) rfl tyi_110 (by repeat first | exact .head _ | apply List.Mem.tail) rfl rfl) ?_
        first | refine AJ_y 1 rfl (by kernel_rfl) (by kernel_rfl) rfl rfl (YJ_loadN (vs := [_, _]) rfl tyi_110 (by repeat first | exact .head _ | apply List.Mem.tail) rfl rfl) ?_ | refine AJ_y 1 rfl (by kernel_rfl) (by kernel_rfl) rfl rfl (YJ_loadFactN (vs := [_, _]) rfl tyi_110 (by repeat first | exact .head _ | apply List.Mem.tail) rfl rfl) ?_
        refine AJ_call0 2 rfl (by kernel_rfl) rfl rfl rfl rfl rfl (minus_c _ _) (AllIn.sub (by first | exact trivial | exact And.intro (by repeat first | exact .head _ | apply List.Mem.tail) trivial | exact And.intro (by repeat first | exact .head _ | apply List.Mem.tail) (And.intro (by repeat first | exact .head _ | apply List.Mem.tail) trivial))) ?_
        refine AJ_y 3 rfl (by kernel_rfl) (by kernel_rfl) rfl rfl (YJ_move rfl) ?_
        refine AJ_boolC (fun h61 => ?_) (fun h61 => ?_)
        · try simp only [decide_eq_true_eq, decide_eq_false_iff_not, Bool.not_eq_true', Bool.not_eq_false', Bool.and_eq_true, Bool.and_eq_false_iff, beq_iff_eq, bne_iff_ne, beq_eq_false_iff_ne, bne_eq_false_iff_eq, ne_eq, decide_eq_decide] at h61
          refine AJ_skip 4 rfl (by kernel_rfl) (by kernel_rfl) rfl rfl ?_
          refine AJ_skip 5 rfl (by kernel_rfl) (by kernel_rfl) rfl rfl ?_
          refine AJ_skip 6 rfl (by kernel_rfl) (by kernel_rfl) rfl rfl ?_
          refine AJ_y 7 rfl (by kernel_rfl) (by kernel_rfl) rfl rfl (YJ_pickT rfl rfl) ?_
          refine AJ_call0 8 rfl (by kernel_rfl) rfl rfl rfl rfl rfl pick_c (AllIn.sub (by first | exact trivial | exact And.intro (by repeat first | exact .head _ | apply List.Mem.tail) trivial | exact And.intro (by repeat first | exact .head _ | apply List.Mem.tail) (And.intro (by repeat first | exact .head _ | apply List.Mem.tail) trivial))) ?_
          refine AJ_y 9 rfl (by kernel_rfl) (by kernel_rfl) rfl rfl (YJ_extract rfl rfl) ?_
          refine AJ_y 10 rfl (by kernel_rfl) (by kernel_rfl) rfl rfl (YJ_extract rfl rfl) ?_
          refine AJ_store (cs' := #[_, _]) (μ' := [_, _, _]) 11 1 rfl (by kernel_rfl) rfl rfl rfl rfl tyi_110 rfl (Nat.le_of_ble_eq_true rfl) rfl rfl rfl (fun _ => AllIn.sub (And.intro (by repeat first | exact .head _ | apply List.Mem.tail) (And.intro (by repeat first | exact .head _ | apply List.Mem.tail) (trivial)))) ?_
          refine AJ_y 12 rfl (by kernel_rfl) (by kernel_rfl) rfl rfl (YJ_assign rfl) ?_
          refine AJ_done (by kernel_rfl) ?_
          refine QJ_then ?_
          refine CJ_ret ?_
          refine QJ_in_ret ?_
          refine QJ_then_ret ?_
          refine QJ_fin (.inl rfl) (μ' := []) (μr := _) (φ' := []) (res_cell_tmp (vs := [_, _]) rfl rfl (by repeat first | exact .head _ | apply List.Mem.tail) tyi_110 rfl rfl) (List.Perm.refl _) (fun _ h => nomatch h) ?_
          exact RetWo_yes' (times_dy q7 q8 q10 h48 (by omega) ht2 (.inl h61) rfl)
        · try simp only [decide_eq_true_eq, decide_eq_false_iff_not, Bool.not_eq_true', Bool.not_eq_false', Bool.and_eq_true, Bool.and_eq_false_iff, beq_iff_eq, bne_iff_ne, beq_eq_false_iff_ne, bne_eq_false_iff_eq, ne_eq, decide_eq_decide] at h61
          first | refine AJ_y 4 rfl (by kernel_rfl) (by kernel_rfl) rfl rfl (YJ_loadN (vs := [_, _]) rfl tyi_110 (by repeat first | exact .head _ | apply List.Mem.tail) rfl rfl) ?_ | refine AJ_y 4 rfl (by kernel_rfl) (by kernel_rfl) rfl rfl (YJ_loadFactN (vs := [_, _]) rfl tyi_110 (by repeat first | exact .head _ | apply List.Mem.tail) rfl rfl) ?_
          refine AJ_y 5 rfl (by kernel_rfl) (by kernel_rfl) rfl rfl (YJ_build1 (cs := [_, _]) lay_110 rfl rfl rfl) ?_
          refine AJ_y 6 rfl (by kernel_rfl) (by kernel_rfl) rfl rfl (YJ_eqs rfl rfl (fun _ => eqs_eql_110 ..)) ?_
          refine AJ_y 7 rfl (by kernel_rfl) (by kernel_rfl) rfl rfl (YJ_pickF rfl rfl) ?_
          refine AJ_boolC (fun h65 => ?_) (fun h65 => ?_)
          · try simp only [decide_eq_true_eq, decide_eq_false_iff_not, Bool.not_eq_true', Bool.not_eq_false', Bool.and_eq_true, Bool.and_eq_false_iff, beq_iff_eq, bne_iff_ne, beq_eq_false_iff_ne, bne_eq_false_iff_eq, ne_eq, decide_eq_decide] at h65
            refine AJ_call0 8 rfl (by kernel_rfl) rfl rfl rfl rfl rfl pick_c (AllIn.sub (by first | exact trivial | exact And.intro (by repeat first | exact .head _ | apply List.Mem.tail) trivial | exact And.intro (by repeat first | exact .head _ | apply List.Mem.tail) (And.intro (by repeat first | exact .head _ | apply List.Mem.tail) trivial))) ?_
            refine AJ_y 9 rfl (by kernel_rfl) (by kernel_rfl) rfl rfl (YJ_extract rfl rfl) ?_
            refine AJ_y 10 rfl (by kernel_rfl) (by kernel_rfl) rfl rfl (YJ_extract rfl rfl) ?_
            refine AJ_store (cs' := #[_, _]) (μ' := [_, _, _]) 11 1 rfl (by kernel_rfl) rfl rfl rfl rfl tyi_110 rfl (Nat.le_of_ble_eq_true rfl) rfl rfl rfl (fun _ => AllIn.sub (And.intro (by repeat first | exact .head _ | apply List.Mem.tail) (And.intro (by repeat first | exact .head _ | apply List.Mem.tail) (trivial)))) ?_
            refine AJ_y 12 rfl (by kernel_rfl) (by kernel_rfl) rfl rfl (YJ_assign rfl) ?_
            refine AJ_done (by kernel_rfl) ?_
            refine QJ_then ?_
            refine CJ_ret ?_
            refine QJ_in_ret ?_
            refine QJ_then_ret ?_
            refine QJ_fin (.inl rfl) (μ' := []) (μr := _) (φ' := []) (res_cell_tmp (vs := [_, _]) rfl rfl (by repeat first | exact .head _ | apply List.Mem.tail) tyi_110 rfl rfl) (List.Perm.refl _) (fun _ h => nomatch h) ?_
            exact RetWo_yes' (times_dy q7 q8 q10 h48 (by omega) ht2 (.inr h65) rfl)
          · try simp only [decide_eq_true_eq, decide_eq_false_iff_not, Bool.not_eq_true', Bool.not_eq_false', Bool.and_eq_true, Bool.and_eq_false_iff, beq_iff_eq, bne_iff_ne, beq_eq_false_iff_ne, bne_eq_false_iff_eq, ne_eq, decide_eq_decide] at h65
            refine AJ_call0 8 rfl (by kernel_rfl) rfl rfl rfl rfl rfl pick_c (AllIn.sub (by first | exact trivial | exact And.intro (by repeat first | exact .head _ | apply List.Mem.tail) trivial | exact And.intro (by repeat first | exact .head _ | apply List.Mem.tail) (And.intro (by repeat first | exact .head _ | apply List.Mem.tail) trivial))) ?_
            refine AJ_y 9 rfl (by kernel_rfl) (by kernel_rfl) rfl rfl (YJ_extract rfl rfl) ?_
            refine AJ_y 10 rfl (by kernel_rfl) (by kernel_rfl) rfl rfl (YJ_extract rfl rfl) ?_
            refine AJ_store (cs' := #[_, _]) (μ' := [_, _, _]) 11 1 rfl (by kernel_rfl) rfl rfl rfl rfl tyi_110 rfl (Nat.le_of_ble_eq_true rfl) rfl rfl rfl (fun _ => AllIn.sub (And.intro (by repeat first | exact .head _ | apply List.Mem.tail) (And.intro (by repeat first | exact .head _ | apply List.Mem.tail) (trivial)))) ?_
            refine AJ_y 12 rfl (by kernel_rfl) (by kernel_rfl) rfl rfl (YJ_assign rfl) ?_
            refine AJ_done (by kernel_rfl) ?_
            refine QJ_then ?_
            refine CJ_ret ?_
            refine QJ_in_ret ?_
            refine QJ_then_ret ?_
            refine QJ_fin (.inl rfl) (μ' := []) (μr := _) (φ' := []) (res_cell_tmp (vs := [_, _]) rfl rfl (by repeat first | exact .head _ | apply List.Mem.tail) tyi_110 rfl rfl) (List.Perm.refl _) (fun _ h => nomatch h) ?_
            exact RetWo_no (times_dn q7 q8 q10 h48 (by omega) ht2 ⟨h61, h65⟩)
      · try simp only [decide_eq_true_eq, decide_eq_false_iff_not, Bool.not_eq_true', Bool.not_eq_false', Bool.and_eq_true, Bool.and_eq_false_iff, beq_iff_eq, bne_iff_ne, beq_eq_false_iff_ne, bne_eq_false_iff_eq, ne_eq, decide_eq_decide] at h54
        refine CJ_skip ?_
        refine QJ_in_normal ?_
        refine QJ_then ?_
        refine CJ_seq ?_
        refine CJ_regD mix (by kernel_rfl) (fun _ _ _ _ _ h => h) (selR [0, 2] _) _ (selR_sub _ _) (fun _ h => h) ?_
        first | refine AJ_y 0 rfl (by kernel_rfl) (by kernel_rfl) rfl rfl (YJ_loadN (vs := [_, _]) rfl tyi_110 (by repeat first | exact .head _ | apply List.Mem.tail) rfl rfl) ?_ | refine AJ_y 0 rfl (by kernel_rfl) (by kernel_rfl) rfl rfl (YJ_loadFactN (vs := [_, _]) rfl tyi_110 (by repeat first | exact .head _ | apply List.Mem.tail) rfl rfl) ?_
        first | refine AJ_y 1 rfl (by kernel_rfl) (by kernel_rfl) rfl rfl (YJ_loadN (vs := [_, _]) rfl tyi_110 (by repeat first | exact .head _ | apply List.Mem.tail) rfl rfl) ?_ | refine AJ_y 1 rfl (by kernel_rfl) (by kernel_rfl) rfl rfl (YJ_loadFactN (vs := [_, _]) rfl tyi_110 (by repeat first | exact .head _ | apply List.Mem.tail) rfl rfl) ?_
        refine AJ_call0 2 rfl (by kernel_rfl) rfl rfl rfl rfl rfl (minus_c _ _) (AllIn.sub (by first | exact trivial | exact And.intro (by repeat first | exact .head _ | apply List.Mem.tail) trivial | exact And.intro (by repeat first | exact .head _ | apply List.Mem.tail) (And.intro (by repeat first | exact .head _ | apply List.Mem.tail) trivial))) ?_
        refine AJ_y 3 rfl (by kernel_rfl) (by kernel_rfl) rfl rfl (YJ_not rfl) ?_
        refine AJ_boolC (fun h72 => ?_) (fun h72 => ?_)
        · try simp only [decide_eq_true_eq, decide_eq_false_iff_not, Bool.not_eq_true', Bool.not_eq_false', Bool.and_eq_true, Bool.and_eq_false_iff, beq_iff_eq, bne_iff_ne, beq_eq_false_iff_ne, bne_eq_false_iff_eq, ne_eq, decide_eq_decide] at h72
          refine AJ_call0 4 rfl (by kernel_rfl) rfl rfl rfl rfl rfl pick_c (AllIn.sub (by first | exact trivial | exact And.intro (by repeat first | exact .head _ | apply List.Mem.tail) trivial | exact And.intro (by repeat first | exact .head _ | apply List.Mem.tail) (And.intro (by repeat first | exact .head _ | apply List.Mem.tail) trivial))) ?_
          refine AJ_y 5 rfl (by kernel_rfl) (by kernel_rfl) rfl rfl (YJ_extract rfl rfl) ?_
          refine AJ_y 6 rfl (by kernel_rfl) (by kernel_rfl) rfl rfl (YJ_extract rfl rfl) ?_
          refine AJ_store (cs' := #[_, _]) (μ' := [_, _, _]) 7 1 rfl (by kernel_rfl) rfl rfl rfl rfl tyi_110 rfl (Nat.le_of_ble_eq_true rfl) rfl rfl rfl (fun _ => AllIn.sub (And.intro (by repeat first | exact .head _ | apply List.Mem.tail) (And.intro (by repeat first | exact .head _ | apply List.Mem.tail) (trivial)))) ?_
          refine AJ_y 8 rfl (by kernel_rfl) (by kernel_rfl) rfl rfl (YJ_assign rfl) ?_
          refine AJ_done (by kernel_rfl) ?_
          refine QJ_then ?_
          refine CJ_ret ?_
          refine QJ_fin (.inl rfl) (μ' := []) (μr := _) (φ' := []) (res_cell_tmp (vs := [_, _]) rfl rfl (by repeat first | exact .head _ | apply List.Mem.tail) tyi_110 rfl rfl) (List.Perm.refl _) (fun _ h => nomatch h) ?_
          exact RetWo_yes' (times_uy q7 q8 q10 h48 (by omega) q6 h72)
        · try simp only [decide_eq_true_eq, decide_eq_false_iff_not, Bool.not_eq_true', Bool.not_eq_false', Bool.and_eq_true, Bool.and_eq_false_iff, beq_iff_eq, bne_iff_ne, beq_eq_false_iff_ne, bne_eq_false_iff_eq, ne_eq, decide_eq_decide] at h72
          refine AJ_call0 4 rfl (by kernel_rfl) rfl rfl rfl rfl rfl pick_c (AllIn.sub (by first | exact trivial | exact And.intro (by repeat first | exact .head _ | apply List.Mem.tail) trivial | exact And.intro (by repeat first | exact .head _ | apply List.Mem.tail) (And.intro (by repeat first | exact .head _ | apply List.Mem.tail) trivial))) ?_
          refine AJ_y 5 rfl (by kernel_rfl) (by kernel_rfl) rfl rfl (YJ_extract rfl rfl) ?_
          refine AJ_y 6 rfl (by kernel_rfl) (by kernel_rfl) rfl rfl (YJ_extract rfl rfl) ?_
          refine AJ_store (cs' := #[_, _]) (μ' := [_, _, _]) 7 1 rfl (by kernel_rfl) rfl rfl rfl rfl tyi_110 rfl (Nat.le_of_ble_eq_true rfl) rfl rfl rfl (fun _ => AllIn.sub (And.intro (by repeat first | exact .head _ | apply List.Mem.tail) (And.intro (by repeat first | exact .head _ | apply List.Mem.tail) (trivial)))) ?_
          refine AJ_y 8 rfl (by kernel_rfl) (by kernel_rfl) rfl rfl (YJ_assign rfl) ?_
          refine AJ_done (by kernel_rfl) ?_
          refine QJ_then ?_
          refine CJ_ret ?_
          refine QJ_fin (.inl rfl) (μ' := []) (μr := _) (φ' := []) (res_cell_tmp (vs := [_, _]) rfl rfl (by repeat first | exact .head _ | apply List.Mem.tail) tyi_110 rfl rfl) (List.Perm.refl _) (fun _ h => nomatch h) ?_
          exact RetWo_no (times_un q7 q8 q10 h48 (by omega) q6 h72)
  · try simp only [decide_eq_true_eq, decide_eq_false_iff_not, Bool.not_eq_true', Bool.not_eq_false', Bool.and_eq_true, Bool.and_eq_false_iff, beq_iff_eq, bne_iff_ne, beq_eq_false_iff_ne, bne_eq_false_iff_eq, ne_eq, decide_eq_decide] at h20
    refine CJ_skip ?_
    refine QJ_then ?_
    refine CJ_seq ?_
    refine CJ_reg ?_
    refine LJ_y rfl rfl (YJ_move rfl) ?_
    refine LJ_call0 rfl rfl rfl rfl rfl (abs_c hn) (AllIn.sub (by first | exact trivial | exact And.intro (by repeat first | exact .head _ | apply List.Mem.tail) trivial | exact And.intro (by repeat first | exact .head _ | apply List.Mem.tail) (And.intro (by repeat first | exact .head _ | apply List.Mem.tail) trivial))) ?_
    refine LJ_y rfl rfl (YJ_assign rfl) ?_
    have k0 : (0 : Int) ≤ n.natAbs ∧ (n.natAbs : Int) ≤ 9223372036854775808 := by unfold I64 at hn; omega
    have q := times_core (A := a) (k := n.natAbs) h (by unfold R128 at ra; omega) (by unfold R128 at ra; omega) k0.1 k0.2
    obtain ⟨q1, q2, q3, q4, q5⟩ := q
    have q6 := times_words q1 q2 q3 q4 q5
    obtain ⟨q6, q7, q8⟩ := q6
    have q9 : (a) = (a.natAbs : Int) := by omega
    rw [q9] at q6 q7 q8
    have q10 := pabs a n
    refine LJ_nil ?_
    refine QJ_then ?_
    refine CJ_seq ?_
    refine CJ_reg ?_
    first | refine LJ_y rfl rfl (YJ_fieldOwn rfl fld_110_0 rfl) ?_ | refine LJ_y rfl rfl (YJ_fieldAddr rfl fld_110_0) ?_
    first | refine LJ_y rfl rfl (YJ_loadL rfl tyi_108 (by repeat first | exact .head _ | apply List.Mem.tail) rfl) ?_ | refine LJ_y rfl rfl (YJ_loadFact rfl tyi_108 (by repeat first | exact .head _ | apply List.Mem.tail) rfl) ?_
    refine LJ_y rfl rfl (YJ_move rfl) ?_
    refine LJ_call0 rfl rfl rfl rfl rfl (mul64_c _ _ (by omega) (by omega) (by omega) (by omega)) (AllIn.sub (by first | exact trivial | exact And.intro (by repeat first | exact .head _ | apply List.Mem.tail) trivial | exact And.intro (by repeat first | exact .head _ | apply List.Mem.tail) (And.intro (by repeat first | exact .head _ | apply List.Mem.tail) trivial))) ?_
    refine LJ_y rfl rfl (YJ_move rfl) ?_
    refine LJ_y rfl rfl (YJ_extract rfl rfl) ?_
    refine LJ_y rfl rfl (YJ_extract rfl rfl) ?_
    refine LJ_y rfl rfl (YJ_assign rfl) ?_
    refine LJ_y rfl rfl (YJ_assign rfl) ?_
    refine LJ_nil ?_
    refine QJ_then ?_
    refine CJ_seq ?_
    refine CJ_reg ?_
    first | refine LJ_y rfl rfl (YJ_fieldOwn rfl fld_110_1 rfl) ?_ | refine LJ_y rfl rfl (YJ_fieldAddr rfl fld_110_1) ?_
    first | refine LJ_y rfl rfl (YJ_loadL rfl tyi_108 (by repeat first | exact .head _ | apply List.Mem.tail) rfl) ?_ | refine LJ_y rfl rfl (YJ_loadFact rfl tyi_108 (by repeat first | exact .head _ | apply List.Mem.tail) rfl) ?_
    refine LJ_y rfl rfl (YJ_move rfl) ?_
    refine LJ_call0 rfl rfl rfl rfl rfl (mul64_c _ _ (by omega) (by omega) (by omega) (by omega)) (AllIn.sub (by first | exact trivial | exact And.intro (by repeat first | exact .head _ | apply List.Mem.tail) trivial | exact And.intro (by repeat first | exact .head _ | apply List.Mem.tail) (And.intro (by repeat first | exact .head _ | apply List.Mem.tail) trivial))) ?_
    refine LJ_y rfl rfl (YJ_move rfl) ?_
    refine LJ_y rfl rfl (YJ_extract rfl rfl) ?_
    refine LJ_y rfl rfl (YJ_extract rfl rfl) ?_
    refine LJ_y rfl rfl (YJ_assign rfl) ?_
    refine LJ_y rfl rfl (YJ_assign rfl) ?_
    refine LJ_nil ?_
    refine QJ_then ?_
    refine CJ_seq ?_
    refine CJ_reg ?_
    refine LJ_y rfl rfl (YJ_move rfl) ?_
    refine LJ_y rfl rfl (YJ_move rfl) ?_
    refine LJ_y rfl rfl (YJ_ext rfl rfl (fun w => add64_run _ _ _ (by omega) (by omega) (by omega) (by omega) w)) ?_
    refine LJ_y rfl rfl (YJ_move rfl) ?_
    refine LJ_y rfl rfl (YJ_extract rfl rfl) ?_
    refine LJ_y rfl rfl (YJ_extract rfl rfl) ?_
    refine LJ_y rfl rfl (YJ_assign rfl) ?_
    refine LJ_y rfl rfl (YJ_assign rfl) ?_
    refine LJ_nil ?_
    refine QJ_then ?_
    refine CJ_seq ?_
    refine CJ_reg ?_
    refine LJ_y rfl rfl (YJ_move rfl) ?_
    refine LJ_y rfl rfl (YJ_move rfl) ?_
    refine LJ_y rfl rfl (YJ_build1 (cs := [_, _]) lay_110 rfl rfl rfl) ?_
    refine LJ_alloc (cs := #[_, _]) rfl rfl zer_110 rfl ?_
    intro b4
    refine LJ_store (cs' := #[_, _]) (μ' := [_, _, _]) 0 rfl rfl rfl rfl tyi_110 rfl (Nat.le_of_ble_eq_true rfl) rfl rfl rfl ?_
    refine LJ_nil ?_
    refine QJ_then ?_
    refine CJ_seq ?_
    refine CJ_block ?_
    refine CJ_seq ?_
    refine CJ_reg ?_
    refine LJ_y rfl rfl (YJ_move rfl) ?_
    refine LJ_y rfl rfl (YJ_move rfl) ?_
    refine LJ_y rfl rfl (YJ_bin rfl rfl (iop_addu (by omega))) ?_
    refine LJ_y rfl rfl (YJ_bin rfl rfl rfl) ?_
    refine LJ_y rfl rfl (YJ_assign rfl) ?_
    refine LJ_nil ?_
    refine QJ_then ?_
    refine CJ_cond rfl (fun h48 => ?_) (fun h48 => ?_)
    · try simp only [decide_eq_true_eq, decide_eq_false_iff_not, Bool.not_eq_true', Bool.not_eq_false', Bool.and_eq_true, Bool.and_eq_false_iff, beq_iff_eq, bne_iff_ne, beq_eq_false_iff_ne, bne_eq_false_iff_eq, ne_eq, decide_eq_decide] at h48
      refine CJ_seq ?_
      refine CJ_reg ?_
      refine LJ_y rfl rfl (YJ_build1 (cs := [_, _]) lay_110 rfl rfl rfl) ?_
      refine LJ_store (cs' := #[_, _]) (μ' := [_, _, _]) 1 rfl rfl rfl rfl tyi_110 rfl (Nat.le_of_ble_eq_true rfl) rfl rfl rfl ?_
      refine LJ_y rfl rfl (YJ_assign rfl) ?_
      refine LJ_nil ?_
      refine QJ_then ?_
      refine CJ_ret ?_
      refine QJ_in_ret ?_
      refine QJ_then_ret ?_
      refine QJ_fin (.inl rfl) (μ' := []) (μr := _) (φ' := []) (res_cell_tmp (vs := [_, _]) rfl rfl (by repeat first | exact .head _ | apply List.Mem.tail) tyi_110 rfl rfl) (List.Perm.refl _) (fun _ h => nomatch h) ?_
      exact RetWo_no (times_big q7 q10 h48)
    · try simp only [decide_eq_true_eq, decide_eq_false_iff_not, Bool.not_eq_true', Bool.not_eq_false', Bool.and_eq_true, Bool.and_eq_false_iff, beq_iff_eq, bne_iff_ne, beq_eq_false_iff_ne, bne_eq_false_iff_eq, ne_eq, decide_eq_decide] at h48
      refine CJ_seq ?_
      refine CJ_reg ?_
      refine LJ_y rfl rfl (YJ_move rfl) ?_
      refine LJ_y rfl rfl (YJ_assign rfl) ?_
      refine LJ_nil ?_
      refine QJ_then ?_
      refine CJ_cond rfl (fun h54 => ?_) (fun h54 => ?_)
      · try simp only [decide_eq_true_eq, decide_eq_false_iff_not, Bool.not_eq_true', Bool.not_eq_false', Bool.and_eq_true, Bool.and_eq_false_iff, beq_iff_eq, bne_iff_ne, beq_eq_false_iff_ne, bne_eq_false_iff_eq, ne_eq, decide_eq_decide] at h54
        refine CJ_seq ?_
        refine CJ_reg ?_
        first | refine LJ_y rfl rfl (YJ_loadN (vs := [_, _]) rfl tyi_110 (by repeat first | exact .head _ | apply List.Mem.tail) rfl rfl) ?_ | refine LJ_y rfl rfl (YJ_loadFactN (vs := [_, _]) rfl tyi_110 (by repeat first | exact .head _ | apply List.Mem.tail) rfl rfl) ?_
        refine LJ_callX rfl rfl rfl rfl rfl (turn_c q6) (AllIn.sub (by first | exact trivial | exact And.intro (by repeat first | exact .head _ | apply List.Mem.tail) trivial | exact And.intro (by repeat first | exact .head _ | apply List.Mem.tail) (And.intro (by repeat first | exact .head _ | apply List.Mem.tail) trivial))) ?_
        rintro ⟨hi2, lo2⟩ ht2
        refine LJ_store (cs' := #[_, _]) (μ' := [_, _, _]) 0 rfl rfl rfl rfl tyi_110 rfl (Nat.le_of_ble_eq_true rfl) rfl rfl rfl ?_
        refine LJ_nil ?_
        refine QJ_then ?_
        refine CJ_seq ?_
        refine CJ_regD mix (by kernel_rfl) (fun _ _ _ _ _ h => h) (selR [0, 2] _) _ (selR_sub _ _) (fun _ h => h) ?_
        first | refine AJ_y 0 rfl (by kernel_rfl) (by kernel_rfl) rfl rfl (YJ_loadN (vs := [_, _]) rfl tyi_110 (by repeat first | exact .head _ | apply List.Mem.tail) rfl rfl) ?_ | refine AJ_y 0 rfl (by kernel_rfl) (by kernel_rfl) rfl rfl (YJ_loadFactN (vs := [_, _]) rfl tyi_110 (by repeat first | exact .head _ | apply List.Mem.tail) rfl rfl) ?_
        first | refine AJ_y 1 rfl (by kernel_rfl) (by kernel_rfl) rfl rfl (YJ_loadN (vs := [_, _]) rfl tyi_110 (by repeat first | exact .head _ | apply List.Mem.tail) rfl rfl) ?_ | refine AJ_y 1 rfl (by kernel_rfl) (by kernel_rfl) rfl rfl (YJ_loadFactN (vs := [_, _]) rfl tyi_110 (by repeat first | exact .head _ | apply List.Mem.tail) rfl rfl) ?_
        refine AJ_call0 2 rfl (by kernel_rfl) rfl rfl rfl rfl rfl (minus_c _ _) (AllIn.sub (by first | exact trivial | exact And.intro (by repeat first | exact .head _ | apply List.Mem.tail) trivial | exact And.intro (by repeat first | exact .head _ | apply List.Mem.tail) (And.intro (by repeat first | exact .head _ | apply List.Mem.tail) trivial))) ?_
        refine AJ_y 3 rfl (by kernel_rfl) (by kernel_rfl) rfl rfl (YJ_move rfl) ?_
        refine AJ_boolC (fun h61 => ?_) (fun h61 => ?_)
        · try simp only [decide_eq_true_eq, decide_eq_false_iff_not, Bool.not_eq_true', Bool.not_eq_false', Bool.and_eq_true, Bool.and_eq_false_iff, beq_iff_eq, bne_iff_ne, beq_eq_false_iff_ne, bne_eq_false_iff_eq, ne_eq, decide_eq_decide] at h61
          refine AJ_skip 4 rfl (by kernel_rfl) (by kernel_rfl) rfl rfl ?_
          refine AJ_skip 5 rfl (by kernel_rfl) (by kernel_rfl) rfl rfl ?_
          refine AJ_skip 6 rfl (by kernel_rfl) (by kernel_rfl) rfl rfl ?_
          refine AJ_y 7 rfl (by kernel_rfl) (by kernel_rfl) rfl rfl (YJ_pickT rfl rfl) ?_
          refine AJ_call0 8 rfl (by kernel_rfl) rfl rfl rfl rfl rfl pick_c (AllIn.sub (by first | exact trivial | exact And.intro (by repeat first | exact .head _ | apply List.Mem.tail) trivial | exact And.intro (by repeat first | exact .head _ | apply List.Mem.tail) (And.intro (by repeat first | exact .head _ | apply List.Mem.tail) trivial))) ?_
          refine AJ_y 9 rfl (by kernel_rfl) (by kernel_rfl) rfl rfl (YJ_extract rfl rfl) ?_
          refine AJ_y 10 rfl (by kernel_rfl) (by kernel_rfl) rfl rfl (YJ_extract rfl rfl) ?_
          refine AJ_store (cs' := #[_, _]) (μ' := [_, _, _]) 11 1 rfl (by kernel_rfl) rfl rfl rfl rfl tyi_110 rfl (Nat.le_of_ble_eq_true rfl) rfl rfl rfl (fun _ => AllIn.sub (And.intro (by repeat first | exact .head _ | apply List.Mem.tail) (And.intro (by repeat first | exact .head _ | apply List.Mem.tail) (trivial)))) ?_
          refine AJ_y 12 rfl (by kernel_rfl) (by kernel_rfl) rfl rfl (YJ_assign rfl) ?_
          refine AJ_done (by kernel_rfl) ?_
          refine QJ_then ?_
          refine CJ_ret ?_
          refine QJ_in_ret ?_
          refine QJ_then_ret ?_
          refine QJ_fin (.inl rfl) (μ' := []) (μr := _) (φ' := []) (res_cell_tmp (vs := [_, _]) rfl rfl (by repeat first | exact .head _ | apply List.Mem.tail) tyi_110 rfl rfl) (List.Perm.refl _) (fun _ h => nomatch h) ?_
          exact RetWo_yes' (times_dy q7 q8 q10 h48 (by omega) ht2 (.inl h61) rfl)
        · try simp only [decide_eq_true_eq, decide_eq_false_iff_not, Bool.not_eq_true', Bool.not_eq_false', Bool.and_eq_true, Bool.and_eq_false_iff, beq_iff_eq, bne_iff_ne, beq_eq_false_iff_ne, bne_eq_false_iff_eq, ne_eq, decide_eq_decide] at h61
          first | refine AJ_y 4 rfl (by kernel_rfl) (by kernel_rfl) rfl rfl (YJ_loadN (vs := [_, _]) rfl tyi_110 (by repeat first | exact .head _ | apply List.Mem.tail) rfl rfl) ?_ | refine AJ_y 4 rfl (by kernel_rfl) (by kernel_rfl) rfl rfl (YJ_loadFactN (vs := [_, _]) rfl tyi_110 (by repeat first | exact .head _ | apply List.Mem.tail) rfl rfl) ?_
          refine AJ_y 5 rfl (by kernel_rfl) (by kernel_rfl) rfl rfl (YJ_build1 (cs := [_, _]) lay_110 rfl rfl rfl) ?_
          refine AJ_y 6 rfl (by kernel_rfl) (by kernel_rfl) rfl rfl (YJ_eqs rfl rfl (fun _ => eqs_eql_110 ..)) ?_
          refine AJ_y 7 rfl (by kernel_rfl) (by kernel_rfl) rfl rfl (YJ_pickF rfl rfl) ?_
          refine AJ_boolC (fun h65 => ?_) (fun h65 => ?_)
          · try simp only [decide_eq_true_eq, decide_eq_false_iff_not, Bool.not_eq_true', Bool.not_eq_false', Bool.and_eq_true, Bool.and_eq_false_iff, beq_iff_eq, bne_iff_ne, beq_eq_false_iff_ne, bne_eq_false_iff_eq, ne_eq, decide_eq_decide] at h65
            refine AJ_call0 8 rfl (by kernel_rfl) rfl rfl rfl rfl rfl pick_c (AllIn.sub (by first | exact trivial | exact And.intro (by repeat first | exact .head _ | apply List.Mem.tail) trivial | exact And.intro (by repeat first | exact .head _ | apply List.Mem.tail) (And.intro (by repeat first | exact .head _ | apply List.Mem.tail) trivial))) ?_
            refine AJ_y 9 rfl (by kernel_rfl) (by kernel_rfl) rfl rfl (YJ_extract rfl rfl) ?_
            refine AJ_y 10 rfl (by kernel_rfl) (by kernel_rfl) rfl rfl (YJ_extract rfl rfl) ?_
            refine AJ_store (cs' := #[_, _]) (μ' := [_, _, _]) 11 1 rfl (by kernel_rfl) rfl rfl rfl rfl tyi_110 rfl (Nat.le_of_ble_eq_true rfl) rfl rfl rfl (fun _ => AllIn.sub (And.intro (by repeat first | exact .head _ | apply List.Mem.tail) (And.intro (by repeat first | exact .head _ | apply List.Mem.tail) (trivial)))) ?_
            refine AJ_y 12 rfl (by kernel_rfl) (by kernel_rfl) rfl rfl (YJ_assign rfl) ?_
            refine AJ_done (by kernel_rfl) ?_
            refine QJ_then ?_
            refine CJ_ret ?_
            refine QJ_in_ret ?_
            refine QJ_then_ret ?_
            refine QJ_fin (.inl rfl) (μ' := []) (μr := _) (φ' := []) (res_cell_tmp (vs := [_, _]) rfl rfl (by repeat first | exact .head _ | apply List.Mem.tail) tyi_110 rfl rfl) (List.Perm.refl _) (fun _ h => nomatch h) ?_
            exact RetWo_yes' (times_dy q7 q8 q10 h48 (by omega) ht2 (.inr h65) rfl)
          · try simp only [decide_eq_true_eq, decide_eq_false_iff_not, Bool.not_eq_true', Bool.not_eq_false', Bool.and_eq_true, Bool.and_eq_false_iff, beq_iff_eq, bne_iff_ne, beq_eq_false_iff_ne, bne_eq_false_iff_eq, ne_eq, decide_eq_decide] at h65
            refine AJ_call0 8 rfl (by kernel_rfl) rfl rfl rfl rfl rfl pick_c (AllIn.sub (by first | exact trivial | exact And.intro (by repeat first | exact .head _ | apply List.Mem.tail) trivial | exact And.intro (by repeat first | exact .head _ | apply List.Mem.tail) (And.intro (by repeat first | exact .head _ | apply List.Mem.tail) trivial))) ?_
            refine AJ_y 9 rfl (by kernel_rfl) (by kernel_rfl) rfl rfl (YJ_extract rfl rfl) ?_
            refine AJ_y 10 rfl (by kernel_rfl) (by kernel_rfl) rfl rfl (YJ_extract rfl rfl) ?_
            refine AJ_store (cs' := #[_, _]) (μ' := [_, _, _]) 11 1 rfl (by kernel_rfl) rfl rfl rfl rfl tyi_110 rfl (Nat.le_of_ble_eq_true rfl) rfl rfl rfl (fun _ => AllIn.sub (And.intro (by repeat first | exact .head _ | apply List.Mem.tail) (And.intro (by repeat first | exact .head _ | apply List.Mem.tail) (trivial)))) ?_
            refine AJ_y 12 rfl (by kernel_rfl) (by kernel_rfl) rfl rfl (YJ_assign rfl) ?_
            refine AJ_done (by kernel_rfl) ?_
            refine QJ_then ?_
            refine CJ_ret ?_
            refine QJ_in_ret ?_
            refine QJ_then_ret ?_
            refine QJ_fin (.inl rfl) (μ' := []) (μr := _) (φ' := []) (res_cell_tmp (vs := [_, _]) rfl rfl (by repeat first | exact .head _ | apply List.Mem.tail) tyi_110 rfl rfl) (List.Perm.refl _) (fun _ h => nomatch h) ?_
            exact RetWo_no (times_dn q7 q8 q10 h48 (by omega) ht2 ⟨h61, h65⟩)
      · try simp only [decide_eq_true_eq, decide_eq_false_iff_not, Bool.not_eq_true', Bool.not_eq_false', Bool.and_eq_true, Bool.and_eq_false_iff, beq_iff_eq, bne_iff_ne, beq_eq_false_iff_ne, bne_eq_false_iff_eq, ne_eq, decide_eq_decide] at h54
        refine CJ_skip ?_
        refine QJ_in_normal ?_
        refine QJ_then ?_
        refine CJ_seq ?_
        refine CJ_regD mix (by kernel_rfl) (fun _ _ _ _ _ h => h) (selR [0, 2] _) _ (selR_sub _ _) (fun _ h => h) ?_
        first | refine AJ_y 0 rfl (by kernel_rfl) (by kernel_rfl) rfl rfl (YJ_loadN (vs := [_, _]) rfl tyi_110 (by repeat first | exact .head _ | apply List.Mem.tail) rfl rfl) ?_ | refine AJ_y 0 rfl (by kernel_rfl) (by kernel_rfl) rfl rfl (YJ_loadFactN (vs := [_, _]) rfl tyi_110 (by repeat first | exact .head _ | apply List.Mem.tail) rfl rfl) ?_
        first | refine AJ_y 1 rfl (by kernel_rfl) (by kernel_rfl) rfl rfl (YJ_loadN (vs := [_, _]) rfl tyi_110 (by repeat first | exact .head _ | apply List.Mem.tail) rfl rfl) ?_ | refine AJ_y 1 rfl (by kernel_rfl) (by kernel_rfl) rfl rfl (YJ_loadFactN (vs := [_, _]) rfl tyi_110 (by repeat first | exact .head _ | apply List.Mem.tail) rfl rfl) ?_
        refine AJ_call0 2 rfl (by kernel_rfl) rfl rfl rfl rfl rfl (minus_c _ _) (AllIn.sub (by first | exact trivial | exact And.intro (by repeat first | exact .head _ | apply List.Mem.tail) trivial | exact And.intro (by repeat first | exact .head _ | apply List.Mem.tail) (And.intro (by repeat first | exact .head _ | apply List.Mem.tail) trivial))) ?_
        refine AJ_y 3 rfl (by kernel_rfl) (by kernel_rfl) rfl rfl (YJ_not rfl) ?_
        refine AJ_boolC (fun h72 => ?_) (fun h72 => ?_)
        · try simp only [decide_eq_true_eq, decide_eq_false_iff_not, Bool.not_eq_true', Bool.not_eq_false', Bool.and_eq_true, Bool.and_eq_false_iff, beq_iff_eq, bne_iff_ne, beq_eq_false_iff_ne, bne_eq_false_iff_eq, ne_eq, decide_eq_decide] at h72
          refine AJ_call0 4 rfl (by kernel_rfl) rfl rfl rfl rfl rfl pick_c (AllIn.sub (by first | exact trivial | exact And.intro (by repeat first | exact .head _ | apply List.Mem.tail) trivial | exact And.intro (by repeat first | exact .head _ | apply List.Mem.tail) (And.intro (by repeat first | exact .head _ | apply List.Mem.tail) trivial))) ?_
          refine AJ_y 5 rfl (by kernel_rfl) (by kernel_rfl) rfl rfl (YJ_extract rfl rfl) ?_
          refine AJ_y 6 rfl (by kernel_rfl) (by kernel_rfl) rfl rfl (YJ_extract rfl rfl) ?_
          refine AJ_store (cs' := #[_, _]) (μ' := [_, _, _]) 7 1 rfl (by kernel_rfl) rfl rfl rfl rfl tyi_110 rfl (Nat.le_of_ble_eq_true rfl) rfl rfl rfl (fun _ => AllIn.sub (And.intro (by repeat first | exact .head _ | apply List.Mem.tail) (And.intro (by repeat first | exact .head _ | apply List.Mem.tail) (trivial)))) ?_
          refine AJ_y 8 rfl (by kernel_rfl) (by kernel_rfl) rfl rfl (YJ_assign rfl) ?_
          refine AJ_done (by kernel_rfl) ?_
          refine QJ_then ?_
          refine CJ_ret ?_
          refine QJ_fin (.inl rfl) (μ' := []) (μr := _) (φ' := []) (res_cell_tmp (vs := [_, _]) rfl rfl (by repeat first | exact .head _ | apply List.Mem.tail) tyi_110 rfl rfl) (List.Perm.refl _) (fun _ h => nomatch h) ?_
          exact RetWo_yes' (times_uy q7 q8 q10 h48 (by omega) q6 h72)
        · try simp only [decide_eq_true_eq, decide_eq_false_iff_not, Bool.not_eq_true', Bool.not_eq_false', Bool.and_eq_true, Bool.and_eq_false_iff, beq_iff_eq, bne_iff_ne, beq_eq_false_iff_ne, bne_eq_false_iff_eq, ne_eq, decide_eq_decide] at h72
          refine AJ_call0 4 rfl (by kernel_rfl) rfl rfl rfl rfl rfl pick_c (AllIn.sub (by first | exact trivial | exact And.intro (by repeat first | exact .head _ | apply List.Mem.tail) trivial | exact And.intro (by repeat first | exact .head _ | apply List.Mem.tail) (And.intro (by repeat first | exact .head _ | apply List.Mem.tail) trivial))) ?_
          refine AJ_y 5 rfl (by kernel_rfl) (by kernel_rfl) rfl rfl (YJ_extract rfl rfl) ?_
          refine AJ_y 6 rfl (by kernel_rfl) (by kernel_rfl) rfl rfl (YJ_extract rfl rfl) ?_
          refine AJ_store (cs' := #[_, _]) (μ' := [_, _, _]) 7 1 rfl (by kernel_rfl) rfl rfl rfl rfl tyi_110 rfl (Nat.le_of_ble_eq_true rfl) rfl rfl rfl (fun _ => AllIn.sub (And.intro (by repeat first | exact .head _ | apply List.Mem.tail) (And.intro (by repeat first | exact .head _ | apply List.Mem.tail) (trivial)))) ?_
          refine AJ_y 8 rfl (by kernel_rfl) (by kernel_rfl) rfl rfl (YJ_assign rfl) ?_
          refine AJ_done (by kernel_rfl) ?_
          refine QJ_then ?_
          refine CJ_ret ?_
          refine QJ_fin (.inl rfl) (μ' := []) (μr := _) (φ' := []) (res_cell_tmp (vs := [_, _]) rfl rfl (by repeat first | exact .head _ | apply List.Mem.tail) tyi_110 rfl rfl) (List.Perm.refl _) (fun _ h => nomatch h) ?_
          exact RetWo_no (times_un q7 q8 q10 h48 (by omega) q6 h72)

end Go.Proofs.Ytbanlhlggkdanaa
