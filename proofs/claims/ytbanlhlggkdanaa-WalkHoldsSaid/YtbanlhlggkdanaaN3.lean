/- The walks of wide.Num and of the small helpers of the statements about wide numbers. -/
import Derived.Test.YtbanlhlggkdanaaN2
import Derived.Test.YtbanlhlggkdanaaAllo
set_option linter.unusedSimpArgs false
set_option linter.unusedVariables false
namespace Go.Proofs.Ytbanlhlggkdanaa
open Go.RowKit

theorem ent_81 : Enter Try.prog 81 = true := by kernel_rfl


theorem nat_of {x : Int} (h : 0 ≤ x) : ∃ n : Nat, x = (n : Int) := ⟨x.toNat, by omega⟩
theorem isW_val {hi lo : Nat} {a : Int} (h : IsW (hi : Int) (lo : Int) a) (r : R128 a) (h0 : ¬ a < 0) : sg false (val [lo, hi]) = a := by
  unfold IsW at h; unfold R128 at r
  simp only [sg, val, Bool.false_eq_true, if_false]
  unfold BB
  omega
theorem isW_val_neg {hi lo : Nat} {a : Int} (h : IsW (hi : Int) (lo : Int) (-a)) (r : R128 a) (h0 : a < 0) : sg true (val [lo, hi]) = a := by
  unfold IsW at h; unfold R128 at r
  simp only [sg, val, if_true]
  unfold BB
  omega
theorem isW_W64 {hi lo : Nat} {a : Int} (h : IsW (hi : Int) (lo : Int) a) : W64 [lo, hi] := by
  have := h.b
  exact W64.append (l := [lo]) (W64.one (by unfold BB; omega)) (W64.one (by unfold BB; omega))
theorem dl_r128 {a : Int} (r : R128 a) : dl a ≤ 2 := dl_le (by unfold R128 at r; unfold BB; omega)


set_option maxRecDepth 100000 in
set_option maxHeartbeats 1000000 in
theorem wnum_c {hi lo a : Int} (h : IsW hi lo a) (r : R128 a) : Tri Try.prog 81 [.agg #[.int .u64 hi, .int .u64 lo]] [] [] (RetN a) := by
  refine Tri_of (N := 20) Try.func81 rfl ent_81 rfl rfl ?_
  intro w0 S0 T0
  show CJ _ _ _ [(0, _)] _ _
  obtain ⟨hi, rfl⟩ := nat_of h.b.1
  obtain ⟨lo, rfl⟩ := nat_of h.b.2.2.1
  have hneg := h.neg r
  refine CJ_seq ?_
  refine CJ_reg ?_
  refine LJ_box (cs := #[_, _]) rfl rfl rfl rfl ?_
  intro b1
  refine LJ_alloc (cs := #[_, _]) rfl rfl zer_100 rfl ?_
  intro b2
  refine LJ_nil ?_
  refine QJ_then ?_
  refine CJ_seq ?_
  refine CJ_seq ?_
  refine CJ_reg ?_
  first | refine LJ_y rfl rfl (YJ_loadN (vs := [_, _]) rfl tyi_110 (by repeat first | exact .head _ | apply List.Mem.tail) rfl rfl) ?_ | refine LJ_y rfl rfl (YJ_loadFactN (vs := [_, _]) rfl tyi_110 (by repeat first | exact .head _ | apply List.Mem.tail) rfl rfl) ?_
  refine LJ_call0 rfl rfl rfl rfl rfl (minus_c _ _) (AllIn.sub (by first | exact trivial | exact And.intro (by repeat first | exact .head _ | apply List.Mem.tail) trivial | exact And.intro (by repeat first | exact .head _ | apply List.Mem.tail) (And.intro (by repeat first | exact .head _ | apply List.Mem.tail) trivial))) ?_
  refine LJ_nil ?_
  refine QJ_then ?_
  refine CJ_cond rfl (fun h5 => ?_) (fun h5 => ?_)
  · try simp only [decide_eq_true_eq, decide_eq_false_iff_not, Bool.not_eq_true', Bool.not_eq_false', Bool.and_eq_true, Bool.and_eq_false_iff, beq_iff_eq, bne_iff_ne, beq_eq_false_iff_ne, bne_eq_false_iff_eq, ne_eq, decide_eq_decide] at h5
    refine CJ_seq ?_
    refine CJ_reg ?_
    first | refine LJ_y rfl rfl (YJ_loadN (vs := [_, _]) rfl tyi_110 (by repeat first | exact .head _ | apply List.Mem.tail) rfl rfl) ?_ | refine LJ_y rfl rfl (YJ_loadFactN (vs := [_, _]) rfl tyi_110 (by repeat first | exact .head _ | apply List.Mem.tail) rfl rfl) ?_
    refine LJ_callX rfl rfl rfl rfl rfl (turn_c h) (AllIn.sub (by first | exact trivial | exact And.intro (by repeat first | exact .head _ | apply List.Mem.tail) trivial | exact And.intro (by repeat first | exact .head _ | apply List.Mem.tail) (And.intro (by repeat first | exact .head _ | apply List.Mem.tail) trivial))) ?_
    rintro ⟨hi2, lo2⟩ h2
    dsimp only at h2
    obtain ⟨hi2, rfl⟩ := nat_of h2.b.1
    obtain ⟨lo2, rfl⟩ := nat_of h2.b.2.2.1
    dsimp only [wvP, List.cons_append, List.nil_append]
    refine LJ_alloc (cs := #[_, _]) rfl rfl zer_110 rfl ?_
    intro b3
    refine LJ_store (cs' := #[_, _]) (μ' := [_, _, _]) 0 rfl rfl rfl rfl tyi_110 rfl (Nat.le_of_ble_eq_true rfl) rfl rfl rfl ?_
    refine LJ_nil ?_
    refine QJ_then ?_
    refine CJ_seq ?_
    refine CJ_reg ?_
    first | refine LJ_y rfl rfl (YJ_fieldOwn rfl fld_110_1 rfl) ?_ | refine LJ_y rfl rfl (YJ_fieldAddr rfl fld_110_1) ?_
    first | refine LJ_y rfl rfl (YJ_loadL rfl tyi_108 (by repeat first | exact .head _ | apply List.Mem.tail) rfl) ?_ | refine LJ_y rfl rfl (YJ_loadFact rfl tyi_108 (by repeat first | exact .head _ | apply List.Mem.tail) rfl) ?_
    first | refine LJ_y rfl rfl (YJ_fieldOwn rfl fld_110_0 rfl) ?_ | refine LJ_y rfl rfl (YJ_fieldAddr rfl fld_110_0) ?_
    first | refine LJ_y rfl rfl (YJ_loadL rfl tyi_108 (by repeat first | exact .head _ | apply List.Mem.tail) rfl) ?_ | refine LJ_y rfl rfl (YJ_loadFact rfl tyi_108 (by repeat first | exact .head _ | apply List.Mem.tail) rfl) ?_
    refine LJ_buildSlice (cs := [_, _]) rfl rfl elt_98 zer_108 rfl (by decide) (pvs := [(_, _), (_, _)]) rfl rfl rfl ?_
    intro b4
    refine LJ_freeze ?_
    refine LJ_addF (r' := lF (some ⟨b4, 0, none⟩) [lo2, hi2]) (.head _) (fun w S h => cellsR_slice (n := 2) rfl w S h) ?_
    refine LJ_callX rfl rfl rfl rfl rfl (nmake_c (l := [lo2, hi2]) rfl (isW_W64 h2) (by simp) (by simp)) (AllIn.sub (by first | exact trivial | exact And.intro (by repeat first | exact .head _ | apply List.Mem.tail) trivial | exact And.intro (by repeat first | exact .head _ | apply List.Mem.tail) (And.intro (by repeat first | exact .head _ | apply List.Mem.tail) trivial))) ?_
    rw [isW_val_neg h2 r (hneg.1 h5)]
    rintro ⟨A1, c1⟩ hcap1
    dsimp only at hcap1
    dsimp only [List.cons_append, List.nil_append]
    refine LJ_store (cs' := #[_, _]) (μ' := [_, _, _]) 1 rfl rfl rfl rfl tyi_100 rfl (Nat.le_of_ble_eq_true rfl) rfl rfl rfl ?_
    refine LJ_nil ?_
    refine QJ_then ?_
    refine CJ_ret ?_
    refine QJ_then_ret ?_
    refine QJ_fin (.inl rfl) (μ' := []) (μr := _) (φ' := [numF a A1]) (res_cell (vs := [_, _]) rfl rfl (by repeat first | exact .head _ | apply List.Mem.tail) tyi_100 rfl) (List.Perm.refl _) (AllIn.sub (And.intro (.head _) trivial)) ?_
    exact ⟨(A1, c1), hcap1, rfl, rfl, rfl⟩
  · try simp only [decide_eq_true_eq, decide_eq_false_iff_not, Bool.not_eq_true', Bool.not_eq_false', Bool.and_eq_true, Bool.and_eq_false_iff, beq_iff_eq, bne_iff_ne, beq_eq_false_iff_ne, bne_eq_false_iff_eq, ne_eq, decide_eq_decide] at h5
    refine CJ_skip ?_
    refine QJ_then ?_
    refine CJ_seq ?_
    refine CJ_reg ?_
    first | refine LJ_y rfl rfl (YJ_fieldOwn rfl fld_110_1 rfl) ?_ | refine LJ_y rfl rfl (YJ_fieldAddr rfl fld_110_1) ?_
    first | refine LJ_y rfl rfl (YJ_loadL rfl tyi_108 (by repeat first | exact .head _ | apply List.Mem.tail) rfl) ?_ | refine LJ_y rfl rfl (YJ_loadFact rfl tyi_108 (by repeat first | exact .head _ | apply List.Mem.tail) rfl) ?_
    first | refine LJ_y rfl rfl (YJ_fieldOwn rfl fld_110_0 rfl) ?_ | refine LJ_y rfl rfl (YJ_fieldAddr rfl fld_110_0) ?_
    first | refine LJ_y rfl rfl (YJ_loadL rfl tyi_108 (by repeat first | exact .head _ | apply List.Mem.tail) rfl) ?_ | refine LJ_y rfl rfl (YJ_loadFact rfl tyi_108 (by repeat first | exact .head _ | apply List.Mem.tail) rfl) ?_
    refine LJ_buildSlice (cs := [_, _]) rfl rfl elt_98 zer_108 rfl (by decide) (pvs := [(_, _), (_, _)]) rfl rfl rfl ?_
    intro b5
    refine LJ_freeze ?_
    refine LJ_addF (r' := lF (some ⟨b5, 0, none⟩) [lo, hi]) (.head _) (fun w S h => cellsR_slice (n := 2) rfl w S h) ?_
    refine LJ_callX rfl rfl rfl rfl rfl (nmake_c (l := [lo, hi]) rfl (isW_W64 h) (by simp) (by simp)) (AllIn.sub (by first | exact trivial | exact And.intro (by repeat first | exact .head _ | apply List.Mem.tail) trivial | exact And.intro (by repeat first | exact .head _ | apply List.Mem.tail) (And.intro (by repeat first | exact .head _ | apply List.Mem.tail) trivial))) ?_
    rw [isW_val h r (fun q => h5 (hneg.2 q))]
    rintro ⟨A1, c1⟩ hcap1
    dsimp only at hcap1
    dsimp only [List.cons_append, List.nil_append]
    refine LJ_store (cs' := #[_, _]) (μ' := [_, _]) 0 rfl rfl rfl rfl tyi_100 rfl (Nat.le_of_ble_eq_true rfl) rfl rfl rfl ?_
    refine LJ_nil ?_
    refine QJ_then ?_
    refine CJ_ret ?_
    refine QJ_fin (.inl rfl) (μ' := []) (μr := _) (φ' := [numF a A1]) (res_cell (vs := [_, _]) rfl rfl (by repeat first | exact .head _ | apply List.Mem.tail) tyi_100 rfl) (List.Perm.refl _) (AllIn.sub (And.intro (.head _) trivial)) ?_
    exact ⟨(A1, c1), hcap1, rfl, rfl, rfl⟩


theorem pow2_succ (i : Nat) : (2 : Int) ^ i + 2 ^ i = 2 ^ (i + 1) := by rw [Int.pow_succ]; omega
theorem dl_pow (i : Nat) : dl (2 ^ i) ≤ i + 1 := by
  apply dl_le
  rw [Int.natAbs_pow]
  show 2 ^ i < BB ^ (i + 1)
  refine Nat.lt_of_lt_of_le (Nat.pow_lt_pow_right (by decide) (Nat.lt_succ_self i)) ?_
  exact Nat.pow_le_pow_left (by decide) _



theorem det1234 : (if R128 (det 1 2 3 4) then det 1 2 3 4 else 0) = -2 := by decide
theorem sgn_self (a : Int) : sgn (a - a) = 0 := by rw [Int.sub_self]; rfl
theorem r128_2 : R128 (-2) := by decide
theorem dl_127 : dl (2 ^ 127) ≤ 40000 := Nat.le_trans (dl_le (k := 2) (by unfold BB; decide)) (by decide)
theorem dl_127n : dl (-2 ^ 127) ≤ 40000 := by rw [dl_neg]; exact dl_127
theorem fits_T {a : Int} (h : 0 ≤ sgn (a - -2 ^ 127)) : decide (sgn (a - 2 ^ 127) < 0) = decide (R128 a) := by
  rw [decide_eq_decide]
  unfold R128
  have h1 := sgn_cases (a - -2 ^ 127)
  have h2 := sgn_cases (a - 2 ^ 127)
  omega
theorem fits_F {a : Int} (h : ¬ 0 ≤ sgn (a - -2 ^ 127)) : false = decide (R128 a) := by
  symm
  rw [decide_eq_false_iff_not]
  unfold R128
  have h1 := sgn_cases (a - -2 ^ 127)
  omega
theorem dl_big {a : Int} (h : R128 a) : dl a ≤ 40000 := Nat.le_trans (dl_r128 h) (by decide)


end Go.Proofs.Ytbanlhlggkdanaa
