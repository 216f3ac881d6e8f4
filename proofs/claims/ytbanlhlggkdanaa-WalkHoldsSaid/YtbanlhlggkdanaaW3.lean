/- The last walks of the functions of wide. -/
import Derived.Test.YtbanlhlggkdanaaW2
set_option linter.unusedSimpArgs false
set_option linter.unusedVariables false
namespace Go.Proofs.Ytbanlhlggkdanaa
open Go.RowKit

theorem ent_51 : Enter Try.prog 51 = true := by kernel_rfl
theorem ent_84 : Enter Try.prog 84 = true := by kernel_rfl


def sgn (n : Int) : Int := if n < 0 then -1 else if n = 0 then 0 else 1
theorem sgn_lt {n : Int} (h : n < 0) : sgn n = -1 := if_pos h
theorem sgn_eq {n : Int} (h : n = 0) : sgn n = 0 := by subst h; rfl
theorem sgn_gt {n : Int} (h : 0 < n) : sgn n = 1 := by unfold sgn; rw [if_neg (by omega), if_neg (by omega)]
theorem sgn_cases (n : Int) : (n < 0 ∧ sgn n = -1) ∨ (n = 0 ∧ sgn n = 0) ∨ (0 < n ∧ sgn n = 1) := by
  rcases Int.lt_trichotomy n 0 with h | h | h
  · exact .inl ⟨h, sgn_lt h⟩
  · exact .inr (.inl ⟨h, sgn_eq h⟩)
  · exact .inr (.inr ⟨h, sgn_gt h⟩)
theorem wmul_r {n m : Int} (hn : I64 n) (hm : I64 m) : R128 (n * m) ∧ -85070591730234615865843651857942052864 ≤ n * m ∧ n * m ≤ 85070591730234615865843651857942052864 := by
  have h1 := pabs_b hn hm
  have h2 := pabs n m
  unfold R128
  split at h2 <;> omega
def det (a b c d : Int) : Int := a * d - b * c


set_option maxRecDepth 100000 in
set_option maxHeartbeats 1000000 in
theorem wsign_c {hi lo a : Int} (h : IsW hi lo a) (ra : R128 a) : Tri Try.prog 51 [.agg #[.int .u64 hi, .int .u64 lo]] [] [] (Ret0 (.int .i64 (sgn a))) := by
  refine Tri_of (N := 10) Try.func51 rfl ent_51 rfl rfl ?_
  intro w0 S0 T0
  show CJ _ _ _ [(0, _)] _ _
  refine CJ_seq ?_
  refine CJ_reg ?_
  refine LJ_box (cs := #[_, _]) rfl rfl rfl rfl ?_
  intro b1
  refine LJ_y rfl rfl (YJ_assign rfl) ?_
  refine LJ_nil ?_
  refine QJ_then ?_
  refine CJ_seq ?_
  refine CJ_block ?_
  refine CJ_seq ?_
  refine CJ_reg ?_
  first | refine LJ_y rfl rfl (YJ_loadN (vs := [_, _]) rfl tyi_110 (by repeat first | exact .head _ | apply List.Mem.tail) rfl rfl) ?_ | refine LJ_y rfl rfl (YJ_loadFactN (vs := [_, _]) rfl tyi_110 (by repeat first | exact .head _ | apply List.Mem.tail) rfl rfl) ?_
  refine LJ_call0 rfl rfl rfl rfl rfl (minus_c _ _) (AllIn.sub (by first | exact trivial | exact And.intro (by repeat first | exact .head _ | apply List.Mem.tail) trivial | exact And.intro (by repeat first | exact .head _ | apply List.Mem.tail) (And.intro (by repeat first | exact .head _ | apply List.Mem.tail) trivial))) ?_
  refine LJ_y rfl rfl (YJ_assign rfl) ?_
  refine LJ_nil ?_
  refine QJ_then ?_
  refine CJ_cond rfl (fun h3 => ?_) (fun h3 => ?_)
  · try simp only [decide_eq_true_eq, decide_eq_false_iff_not, Bool.not_eq_true', Bool.not_eq_false', Bool.and_eq_true, Bool.and_eq_false_iff, beq_iff_eq, bne_iff_ne, beq_eq_false_iff_ne, bne_eq_false_iff_eq, ne_eq, decide_eq_decide] at h3
    refine CJ_seq ?_
    refine CJ_reg ?_
    refine LJ_y rfl rfl (YJ_assign rfl) ?_
    refine LJ_nil ?_
    refine QJ_then ?_
    refine CJ_ret ?_
    refine QJ_in_ret ?_
    refine QJ_then_ret ?_
    refine QJ_fin (.inl rfl) (μ' := []) (μr := _) (φ' := []) (res_tmp rfl rfl) (List.Perm.refl _) (fun _ h => nomatch h) ?_
    exact ⟨congrArg (Value.int .i64) (by unfold IsW at *; unfold R128 at *; first | exact (sgn_lt (by omega)).symm | exact (sgn_eq (by omega)).symm | exact (sgn_gt (by omega)).symm), rfl, rfl⟩
  · try simp only [decide_eq_true_eq, decide_eq_false_iff_not, Bool.not_eq_true', Bool.not_eq_false', Bool.and_eq_true, Bool.and_eq_false_iff, beq_iff_eq, bne_iff_ne, beq_eq_false_iff_ne, bne_eq_false_iff_eq, ne_eq, decide_eq_decide] at h3
    refine CJ_seq ?_
    refine CJ_reg ?_
    first | refine LJ_y rfl rfl (YJ_loadN (vs := [_, _]) rfl tyi_110 (by repeat first | exact .head _ | apply List.Mem.tail) rfl rfl) ?_ | refine LJ_y rfl rfl (YJ_loadFactN (vs := [_, _]) rfl tyi_110 (by repeat first | exact .head _ | apply List.Mem.tail) rfl rfl) ?_
    refine LJ_y rfl rfl (YJ_build1 (cs := [_, _]) lay_110 rfl rfl rfl) ?_
    refine LJ_y rfl rfl (YJ_eqs rfl rfl (fun _ => eqs_eql_110 ..)) ?_
    refine LJ_y rfl rfl (YJ_assign rfl) ?_
    refine LJ_nil ?_
    refine QJ_then ?_
    refine CJ_cond rfl (fun h6 => ?_) (fun h6 => ?_)
    · try simp only [decide_eq_true_eq, decide_eq_false_iff_not, Bool.not_eq_true', Bool.not_eq_false', Bool.and_eq_true, Bool.and_eq_false_iff, beq_iff_eq, bne_iff_ne, beq_eq_false_iff_ne, bne_eq_false_iff_eq, ne_eq, decide_eq_decide] at h6
      refine CJ_seq ?_
      refine CJ_reg ?_
      refine LJ_y rfl rfl (YJ_assign rfl) ?_
      refine LJ_nil ?_
      refine QJ_then ?_
      refine CJ_ret ?_
      refine QJ_in_ret ?_
      refine QJ_then_ret ?_
      refine QJ_fin (.inl rfl) (μ' := []) (μr := _) (φ' := []) (res_tmp rfl rfl) (List.Perm.refl _) (fun _ h => nomatch h) ?_
      exact ⟨congrArg (Value.int .i64) (by unfold IsW at *; unfold R128 at *; first | exact (sgn_lt (by omega)).symm | exact (sgn_eq (by omega)).symm | exact (sgn_gt (by omega)).symm), rfl, rfl⟩
    · try simp only [decide_eq_true_eq, decide_eq_false_iff_not, Bool.not_eq_true', Bool.not_eq_false', Bool.and_eq_true, Bool.and_eq_false_iff, beq_iff_eq, bne_iff_ne, beq_eq_false_iff_ne, bne_eq_false_iff_eq, ne_eq, decide_eq_decide] at h6
      refine CJ_skip ?_
      refine QJ_in_normal ?_
      refine QJ_then ?_
      refine CJ_seq ?_
      refine CJ_reg ?_
      refine LJ_y rfl rfl (YJ_assign rfl) ?_
      refine LJ_nil ?_
      refine QJ_then ?_
      refine CJ_ret ?_
      refine QJ_fin (.inl rfl) (μ' := []) (μr := _) (φ' := []) (res_tmp rfl rfl) (List.Perm.refl _) (fun _ h => nomatch h) ?_
      exact ⟨congrArg (Value.int .i64) (by unfold IsW at *; unfold R128 at *; first | exact (sgn_lt (by omega)).symm | exact (sgn_eq (by omega)).symm | exact (sgn_gt (by omega)).symm), rfl, rfl⟩

set_option maxRecDepth 100000 in
set_option maxHeartbeats 1000000 in
theorem wdet_c {a b c d : Int} (ha : I64 a) (hb : I64 b) (hc : I64 c) (hd : I64 d) : Tri Try.prog 84 [.int .i64 a, .int .i64 b, .int .i64 c, .int .i64 d] [] [] (RetW (if R128 (det a b c d) then det a b c d else 0)) := by
  refine Tri_of (N := 22) Try.func84 rfl ent_84 rfl rfl ?_
  intro w0 S0 T0
  show CJ _ _ _ [(0, _), (1, _), (2, _), (3, _)] _ _
  have r1 := (wmul_r ha hd).1
  have r2 := (wmul_r hb hc).1
  refine CJ_seq ?_
  refine CJ_reg ?_
  refine LJ_alloc (cs := #[_, _]) rfl rfl zer_110 rfl ?_
  intro b1
  refine LJ_nil ?_
  refine QJ_then ?_
  refine CJ_seq ?_
  refine CJ_reg ?_
  refine LJ_y rfl rfl (YJ_move rfl) ?_
  refine LJ_y rfl rfl (YJ_move rfl) ?_
  refine LJ_callX rfl rfl rfl rfl rfl (wmul_c ha hd) (AllIn.sub (by first | exact trivial | exact And.intro (by repeat first | exact .head _ | apply List.Mem.tail) trivial | exact And.intro (by repeat first | exact .head _ | apply List.Mem.tail) (And.intro (by repeat first | exact .head _ | apply List.Mem.tail) trivial))) ?_
  rintro ⟨_, _⟩ h1
  refine LJ_y rfl rfl (YJ_move rfl) ?_
  refine LJ_y rfl rfl (YJ_move rfl) ?_
  refine LJ_callX rfl rfl rfl rfl rfl (wmul_c hb hc) (AllIn.sub (by first | exact trivial | exact And.intro (by repeat first | exact .head _ | apply List.Mem.tail) trivial | exact And.intro (by repeat first | exact .head _ | apply List.Mem.tail) (And.intro (by repeat first | exact .head _ | apply List.Mem.tail) trivial))) ?_
  rintro ⟨_, _⟩ h2
  refine LJ_callX rfl rfl rfl rfl rfl (wsub_c h1 h2 r1 r2) (AllIn.sub (by first | exact trivial | exact And.intro (by repeat first | exact .head _ | apply List.Mem.tail) trivial | exact And.intro (by repeat first | exact .head _ | apply List.Mem.tail) (And.intro (by repeat first | exact .head _ | apply List.Mem.tail) trivial))) ?_
  rintro ⟨_, _⟩ h3
  refine LJ_y rfl rfl (YJ_move rfl) ?_
  refine LJ_y rfl rfl (YJ_extract rfl rfl) ?_
  refine LJ_y rfl rfl (YJ_extract rfl rfl) ?_
  refine LJ_alloc (cs := #[_, _]) rfl rfl zer_110 rfl ?_
  intro b2
  refine LJ_store (cs' := #[_, _]) (μ' := [_, _]) 0 rfl rfl rfl rfl tyi_110 rfl (Nat.le_of_ble_eq_true rfl) rfl rfl rfl ?_
  refine LJ_y rfl rfl (YJ_assign rfl) ?_
  refine LJ_nil ?_
  refine QJ_then ?_
  refine CJ_seq ?_
  refine CJ_reg ?_
  first | refine LJ_y rfl rfl (YJ_loadN (vs := [_, _]) rfl tyi_110 (by repeat first | exact .head _ | apply List.Mem.tail) rfl rfl) ?_ | refine LJ_y rfl rfl (YJ_loadFactN (vs := [_, _]) rfl tyi_110 (by repeat first | exact .head _ | apply List.Mem.tail) rfl rfl) ?_
  refine LJ_store (cs' := #[_, _]) (μ' := [_, _]) 1 rfl rfl rfl rfl tyi_110 rfl (Nat.le_of_ble_eq_true rfl) rfl rfl rfl ?_
  refine LJ_nil ?_
  refine QJ_then ?_
  refine CJ_ret ?_
  refine QJ_fin (.inl rfl) (μ' := []) (μr := _) (φ' := []) (res_cell (vs := [_, _]) rfl rfl (by repeat first | exact .head _ | apply List.Mem.tail) tyi_110 rfl) (List.Perm.refl _) (fun _ h => nomatch h) ?_
  exact ⟨(_, _), h3, rfl, rfl, rfl⟩

end Go.Proofs.Ytbanlhlggkdanaa
