/- The walks of wide.Num and of the small helpers of the statements about wide numbers. -/
import Derived.Test.YtggbdfnoehienaaN2
import Derived.Test.YtggbdfnoehienaaAllo
set_option linter.unusedSimpArgs false
set_option linter.unusedVariables false
namespace Go.Proofs.Ytggbdfnoehienaa
open Go.RowKit

theorem ent_15 : Enter Try.prog 15 = true := by kernel_rfl
theorem ent_62 : Enter Try.prog 62 = true := by kernel_rfl
theorem ent_31 : Enter Try.prog 31 = true := by kernel_rfl
theorem ent_14 : Enter Try.prog 14 = true := by kernel_rfl
theorem ent_30 : Enter Try.prog 30 = true := by kernel_rfl
theorem ent_26 : Enter Try.prog 26 = true := by kernel_rfl


theorem nat_of {x : Int} (h : 0 ≤ x) : ∃ n : Nat, x = (n : Int) := ⟨x.toNat, by omega⟩
theorem isW_val {hi lo : Nat} {a : Int} (h : IsW (hi : Int) (lo : Int) a) (r : R128 a) (h0 : ¬ a < 0) : sg false (val [lo, hi]) = a := by
  unfold IsW at h; unfold R128 at r
  simp only [sg, val, Bool.false_eq_true, if_false]
  unfold BB
  omega
theorem isW_val_neg {hi lo : Nat} {a : Int} (h : IsW (hi : Int) (lo : Int) (-a)) (r : R128 a) (h0 : a < 0) : sg true (val [lo, hi]) = a := by
  unfold IsW at h; unfold R128 at r
  simp only [sg, val, if_true]
  unfold BB
  omega
theorem isW_W64 {hi lo : Nat} {a : Int} (h : IsW (hi : Int) (lo : Int) a) : W64 [lo, hi] := by
  have := h.b
  exact W64.append (l := [lo]) (W64.one (by unfold BB; omega)) (W64.one (by unfold BB; omega))
theorem dl_r128 {a : Int} (r : R128 a) : dl a ≤ 2 := dl_le (by unfold R128 at r; unfold BB; omega)


set_option maxRecDepth 100000 in
set_option maxHeartbeats 1000000 in
theorem wnum_c {hi lo a : Int} (h : IsW hi lo a) (r : R128 a) : Tri Try.prog 15 [.agg #[.int .u64 hi, .int .u64 lo]] [] [] (RetN a) := by
  refine Tri_of (N := 20) Try.func15 rfl ent_15 rfl rfl ?_
  intro w0 S0 T0
  show CJ _ _ _ [(0, _)] _ _
  obtain ⟨hi, rfl⟩ := nat_of h.b.1
  obtain ⟨lo, rfl⟩ := nat_of h.b.2.2.1
  have hneg := h.neg r
  refine CJ_seq ?_
  refine CJ_reg ?_
  refine LJ_box (cs := #[_, _]) rfl rfl rfl rfl ?_
  intro b1
  refine LJ_alloc (cs := #[_, _]) rfl rfl zer_29 rfl ?_
  intro b2
  refine LJ_nil ?_
  refine QJ_then ?_
  refine CJ_seq ?_
  refine CJ_seq ?_
  refine CJ_reg ?_
  first | refine LJ_y rfl rfl (YJ_loadN (vs := [_, _]) rfl tyi_24 (by repeat first | exact .head _ | apply List.Mem.tail) rfl rfl) ?_ | refine LJ_y rfl rfl (YJ_loadFactN (vs := [_, _]) rfl tyi_24 (by repeat first | exact .head _ | apply List.Mem.tail) rfl rfl) ?_
  refine LJ_call0 rfl rfl rfl rfl rfl (minus_c _ _) (AllIn.sub (by first | exact trivial | exact And.intro (by repeat first | exact .head _ | apply List.Mem.tail) trivial | exact And.intro (by repeat first | exact .head _ | apply List.Mem.tail) (And.intro (by repeat first | exact .head _ | apply List.Mem.tail) trivial))) ?_
  refine LJ_nil ?_
  refine QJ_then ?_
  refine CJ_cond rfl (fun h5 => ?_) (fun h5 => ?_)
  · try simp only [decide_eq_true_eq, decide_eq_false_iff_not, Bool.not_eq_true', Bool.not_eq_false', Bool.and_eq_true, Bool.and_eq_false_iff, beq_iff_eq, bne_iff_ne, beq_eq_false_iff_ne, bne_eq_false_iff_eq, ne_eq, decide_eq_decide] at h5
    refine CJ_seq ?_
    refine CJ_reg ?_
    first | refine LJ_y rfl rfl (YJ_loadN (vs := [_, _]) rfl tyi_24 (by repeat first | exact .head _ | apply List.Mem.tail) rfl rfl) ?_ | refine LJ_y rfl rfl (YJ_loadFactN (vs := [_, _]) rfl tyi_24 (by repeat first | exact .head _ | apply List.Mem.tail) rfl rfl) ?_
    refine LJ_callX rfl rfl rfl rfl rfl (turn_c h) (AllIn.sub (by first | exact trivial | exact And.intro (by repeat first | exact .head _ | apply List.Mem.tail) trivial | exact And.intro (by repeat first | exact .head _ | apply List.Mem.tail) (And.intro (by repeat first | exact .head _ | apply List.Mem.tail) trivial))) ?_
    rintro ⟨hi2, lo2⟩ h2
    dsimp only at h2
    obtain ⟨hi2, rfl⟩ := nat_of h2.b.1
    obtain ⟨lo2, rfl⟩ := nat_of h2.b.2.2.1
    dsimp only [wvP, List.cons_append, List.nil_append]
    refine LJ_alloc (cs := #[_, _]) rfl rfl zer_24 rfl ?_
    intro b3
    refine LJ_store (cs' := #[_, _]) (μ' := [_, _, _]) 0 rfl rfl rfl rfl tyi_24 rfl (Nat.le_of_ble_eq_true rfl) rfl rfl rfl ?_
    refine LJ_nil ?_
    refine QJ_then ?_
    refine CJ_seq ?_
    refine CJ_reg ?_
    first | refine LJ_y rfl rfl (YJ_fieldOwn rfl fld_24_1 rfl) ?_ | refine LJ_y rfl rfl (YJ_fieldAddr rfl fld_24_1) ?_
    first | refine LJ_y rfl rfl (YJ_loadL rfl tyi_22 (by repeat first | exact .head _ | apply List.Mem.tail) rfl) ?_ | refine LJ_y rfl rfl (YJ_loadFact rfl tyi_22 (by repeat first | exact .head _ | apply List.Mem.tail) rfl) ?_
    first | refine LJ_y rfl rfl (YJ_fieldOwn rfl fld_24_0 rfl) ?_ | refine LJ_y rfl rfl (YJ_fieldAddr rfl fld_24_0) ?_
    first | refine LJ_y rfl rfl (YJ_loadL rfl tyi_22 (by repeat first | exact .head _ | apply List.Mem.tail) rfl) ?_ | refine LJ_y rfl rfl (YJ_loadFact rfl tyi_22 (by repeat first | exact .head _ | apply List.Mem.tail) rfl) ?_
    refine LJ_buildSlice (cs := [_, _]) rfl rfl elt_27 zer_22 rfl (by decide) (pvs := [(_, _), (_, _)]) rfl rfl rfl ?_
    intro b4
    refine LJ_freeze ?_
    refine LJ_addF (r' := lF (some ⟨b4, 0, none⟩) [lo2, hi2]) (.head _) (fun w S h => cellsR_slice (n := 2) rfl w S h) ?_
    refine LJ_callX rfl rfl rfl rfl rfl (nmake_c (l := [lo2, hi2]) rfl (isW_W64 h2) (by simp) (by simp)) (AllIn.sub (by first | exact trivial | exact And.intro (by repeat first | exact .head _ | apply List.Mem.tail) trivial | exact And.intro (by repeat first | exact .head _ | apply List.Mem.tail) (And.intro (by repeat first | exact .head _ | apply List.Mem.tail) trivial))) ?_
    rw [isW_val_neg h2 r (hneg.1 h5)]
    rintro ⟨A1, c1⟩ hcap1
    dsimp only at hcap1
    dsimp only [List.cons_append, List.nil_append]
    refine LJ_store (cs' := #[_, _]) (μ' := [_, _, _]) 1 rfl rfl rfl rfl tyi_29 rfl (Nat.le_of_ble_eq_true rfl) rfl rfl rfl ?_
    refine LJ_nil ?_
    refine QJ_then ?_
    refine CJ_ret ?_
    refine QJ_then_ret ?_
    refine QJ_fin (.inl rfl) (μ' := []) (μr := _) (φ' := [numF a A1]) (res_cell (vs := [_, _]) rfl rfl (by repeat first | exact .head _ | apply List.Mem.tail) tyi_29 rfl) (List.Perm.refl _) (AllIn.sub (And.intro (.head _) trivial)) ?_
    exact ⟨(A1, c1), hcap1, rfl, rfl, rfl⟩
  · try simp only [decide_eq_true_eq, decide_eq_false_iff_not, Bool.not_eq_true', Bool.not_eq_false', Bool.and_eq_true, Bool.and_eq_false_iff, beq_iff_eq, bne_iff_ne, beq_eq_false_iff_ne, bne_eq_false_iff_eq, ne_eq, decide_eq_decide] at h5
    refine CJ_skip ?_
    refine QJ_then ?_
    refine CJ_seq ?_
    refine CJ_reg ?_
    first | refine LJ_y rfl rfl (YJ_fieldOwn rfl fld_24_1 rfl) ?_ | refine LJ_y rfl rfl (YJ_fieldAddr rfl fld_24_1) ?_
    first | refine LJ_y rfl rfl (YJ_loadL rfl tyi_22 (by repeat first | exact .head _ | apply List.Mem.tail) rfl) ?_ | refine LJ_y rfl rfl (YJ_loadFact rfl tyi_22 (by repeat first | exact .head _ | apply List.Mem.tail) rfl) ?_
    first | refine LJ_y rfl rfl (YJ_fieldOwn rfl fld_24_0 rfl) ?_ | refine LJ_y rfl rfl (YJ_fieldAddr rfl fld_24_0) ?_
    first | refine LJ_y rfl rfl (YJ_loadL rfl tyi_22 (by repeat first | exact .head _ | apply List.Mem.tail) rfl) ?_ | refine LJ_y rfl rfl (YJ_loadFact rfl tyi_22 (by repeat first | exact .head _ | apply List.Mem.tail) rfl) ?_
    refine LJ_buildSlice (cs := [_, _]) rfl rfl elt_27 zer_22 rfl (by decide) (pvs := [(_, _), (_, _)]) rfl rfl rfl ?_
    intro b5
    refine LJ_freeze ?_
    refine LJ_addF (r' := lF (some ⟨b5, 0, none⟩) [lo, hi]) (.head _) (fun w S h => cellsR_slice (n := 2) rfl w S h) ?_
    refine LJ_callX rfl rfl rfl rfl rfl (nmake_c (l := [lo, hi]) rfl (isW_W64 h) (by simp) (by simp)) (AllIn.sub (by first | exact trivial | exact And.intro (by repeat first | exact .head _ | apply List.Mem.tail) trivial | exact And.intro (by repeat first | exact .head _ | apply List.Mem.tail) (And.intro (by repeat first | exact .head _ | apply List.Mem.tail) trivial))) ?_
    rw [isW_val h r (fun q => h5 (hneg.2 q))]
    rintro ⟨A1, c1⟩ hcap1
    dsimp only at hcap1
    dsimp only [List.cons_append, List.nil_append]
    refine LJ_store (cs' := #[_, _]) (μ' := [_, _]) 0 rfl rfl rfl rfl tyi_29 rfl (Nat.le_of_ble_eq_true rfl) rfl rfl rfl ?_
    refine LJ_nil ?_
    refine QJ_then ?_
    refine CJ_ret ?_
    refine QJ_fin (.inl rfl) (μ' := []) (μr := _) (φ' := [numF a A1]) (res_cell (vs := [_, _]) rfl rfl (by repeat first | exact .head _ | apply List.Mem.tail) tyi_29 rfl) (List.Perm.refl _) (AllIn.sub (And.intro (.head _) trivial)) ?_
    exact ⟨(A1, c1), hcap1, rfl, rfl, rfl⟩


theorem pow2_succ (i : Nat) : (2 : Int) ^ i + 2 ^ i = 2 ^ (i + 1) := by rw [Int.pow_succ]; omega
theorem dl_pow (i : Nat) : dl (2 ^ i) ≤ i + 1 := by
  apply dl_le
  rw [Int.natAbs_pow]
  show 2 ^ i < BB ^ (i + 1)
  refine Nat.lt_of_lt_of_le (Nat.pow_lt_pow_right (by decide) (Nat.lt_succ_self i)) ?_
  exact Nat.pow_le_pow_left (by decide) _


set_option maxRecDepth 100000 in
set_option maxHeartbeats 1000000 in
theorem power_c {n : Nat} (hn : n ≤ 1000) : Tri Try.prog 62 [.int .i64 (n : Int)] [] [] (RetN (2 ^ n)) := by
  refine Tri_of (N := 13) Try.func62 rfl ent_62 rfl rfl ?_
  intro w0 S0 T0
  show CJ _ _ _ [(0, _)] _ _
  refine CJ_seq ?_
  refine CJ_reg ?_
  refine LJ_alloc (cs := #[_, _]) rfl rfl zer_29 rfl ?_
  intro b1
  refine LJ_nil ?_
  refine QJ_then ?_
  refine CJ_seq ?_
  refine CJ_reg ?_
  refine LJ_callX rfl rfl rfl rfl rfl (show Tri _ _ _ _ _ (RetN (2 ^ 0)) from nof_c (z := 1) (by unfold I64; omega)) (AllIn.sub (by first | exact trivial | exact And.intro (by repeat first | exact .head _ | apply List.Mem.tail) trivial | exact And.intro (by repeat first | exact .head _ | apply List.Mem.tail) (And.intro (by repeat first | exact .head _ | apply List.Mem.tail) trivial))) ?_
  rintro ⟨A1, c1⟩ hcap1
  dsimp only at hcap1
  dsimp only [List.cons_append, List.nil_append]
  refine LJ_alloc (cs := #[_, _]) rfl rfl zer_29 rfl ?_
  intro b2
  refine LJ_store (cs' := #[_, _]) (μ' := [_, _]) 0 rfl rfl rfl rfl tyi_29 rfl (Nat.le_of_ble_eq_true rfl) rfl rfl rfl ?_
  refine LJ_nil ?_
  refine QJ_then ?_
  refine CJ_seq ?_
  refine CJ_seq ?_
  refine CJ_reg ?_
  refine LJ_y rfl rfl (YJ_move rfl) ?_
  refine LJ_y rfl rfl (YJ_move rfl) ?_
  refine LJ_nil ?_
  refine QJ_then ?_
  refine CJ_block ?_
  refine CJ_loop (F := fun (x : Nat × Option Addr × Nat) => ⟨[(2, .pointer (some ⟨b1, 0, none⟩)), (3, .pointer (some ⟨b2, 0, none⟩)), (5, .int .i64 (n : Int)), (6, .int .i64 (x.1 : Int))], [cellsR b2 #[.bool (decide ((2 : Int) ^ x.1 < 0)), .slice x.2.1 (dl (2 ^ x.1)) x.2.2] 29, cellsR b1 #[.bool false, .slice none 0 0] 29], [numF (2 ^ x.1) x.2.1]⟩) (I := fun (x : Nat × Option Addr × Nat) => x.1 ≤ n ∧ dl (2 ^ x.1) ≤ x.2.2) (m := fun (x : Nat × Option Addr × Nat) => n - x.1) (0, A1, c1) (μr := []) ⟨Nat.zero_le _, hcap1⟩ (And.intro rfl (And.intro rfl (And.intro rfl (And.intro rfl (trivial))))) (List.Perm.refl _) (fun _ h => h) ?_
  rintro ⟨i, A, c⟩ ⟨hi, hc⟩
  try dsimp only at hi
  try dsimp only at hc
  show CJ _ _ _ [(2, .pointer (some ⟨b1, 0, none⟩)), (3, .pointer (some ⟨b2, 0, none⟩)), (5, .int .i64 (n : Int)), (6, .int .i64 (i : Int))] [cellsR b2 #[.bool (decide ((2 : Int) ^ i < 0)), .slice A (dl (2 ^ i)) c] 29, cellsR b1 #[.bool false, .slice none 0 0] 29] [numF (2 ^ i) A]
  refine CJ_seq ?_
  refine CJ_reg ?_
  refine LJ_y rfl rfl (YJ_bin rfl rfl rfl) ?_
  refine LJ_nil ?_
  refine QJ_then ?_
  refine CJ_seq ?_
  refine CJ_cond rfl (fun h7 => ?_) (fun h7 => ?_)
  · try simp only [decide_eq_true_eq, decide_eq_false_iff_not, Bool.not_eq_true', Bool.not_eq_false', Bool.and_eq_true, Bool.and_eq_false_iff, beq_iff_eq, bne_iff_ne, beq_eq_false_iff_ne, bne_eq_false_iff_eq, ne_eq, decide_eq_decide] at h7
    refine CJ_skip ?_
    refine QJ_then ?_
    refine CJ_seq ?_
    refine CJ_block ?_
    refine CJ_reg ?_
    first | refine LJ_y rfl rfl (YJ_loadN (vs := [_, _]) rfl tyi_29 (by repeat first | exact .head _ | apply List.Mem.tail) rfl rfl) ?_ | refine LJ_y rfl rfl (YJ_loadFactN (vs := [_, _]) rfl tyi_29 (by repeat first | exact .head _ | apply List.Mem.tail) rfl rfl) ?_
    first | refine LJ_y rfl rfl (YJ_loadN (vs := [_, _]) rfl tyi_29 (by repeat first | exact .head _ | apply List.Mem.tail) rfl rfl) ?_ | refine LJ_y rfl rfl (YJ_loadFactN (vs := [_, _]) rfl tyi_29 (by repeat first | exact .head _ | apply List.Mem.tail) rfl rfl) ?_
    refine LJ_callX rfl rfl rfl rfl rfl (nadd_c (a := 2 ^ i) (b := 2 ^ i) (Nat.le_trans (dl_pow i) (by omega)) (Nat.le_trans (dl_pow i) (by omega)) hc hc) (AllIn.sub (by first | exact trivial | exact And.intro (by repeat first | exact .head _ | apply List.Mem.tail) trivial | exact And.intro (by repeat first | exact .head _ | apply List.Mem.tail) (And.intro (by repeat first | exact .head _ | apply List.Mem.tail) trivial))) ?_
    rw [pow2_succ]
    rintro ⟨A1, c1⟩ hcap1
    dsimp only at hcap1
    dsimp only [List.cons_append, List.nil_append]
    refine LJ_store (cs' := #[_, _]) (μ' := [_, _]) 0 rfl rfl rfl rfl tyi_29 rfl (Nat.le_of_ble_eq_true rfl) rfl rfl rfl ?_
    refine LJ_nil ?_
    refine QJ_in_normal ?_
    refine QJ_then ?_
    refine CJ_reg ?_
    first | refine LJ_y rfl rfl (YJ_bin rfl rfl (iop_add (by omega))) ?_ | refine LJ_y rfl rfl (YJ_bin rfl rfl rfl) ?_
    refine LJ_y rfl rfl (YJ_move rfl) ?_
    refine LJ_nil ?_
    refine QJ_round (F := fun (x : Nat × Option Addr × Nat) => ⟨[(2, .pointer (some ⟨b1, 0, none⟩)), (3, .pointer (some ⟨b2, 0, none⟩)), (5, .int .i64 (n : Int)), (6, .int .i64 (x.1 : Int))], [cellsR b2 #[.bool (decide ((2 : Int) ^ x.1 < 0)), .slice x.2.1 (dl (2 ^ x.1)) x.2.2] 29, cellsR b1 #[.bool false, .slice none 0 0] 29], [numF (2 ^ x.1) x.2.1]⟩) (I := fun (x : Nat × Option Addr × Nat) => x.1 ≤ n ∧ dl (2 ^ x.1) ≤ x.2.2) (m := fun (x : Nat × Option Addr × Nat) => n - x.1) (i := (i, A, c)) ((i + 1, A1, c1)) (μr := []) ⟨by omega, hcap1⟩ (by dsimp only; omega) (And.intro rfl (And.intro rfl (And.intro rfl (And.intro rfl (trivial))))) (List.Perm.refl _) (AllIn.sub (And.intro (.head _) trivial))
  · try simp only [decide_eq_true_eq, decide_eq_false_iff_not, Bool.not_eq_true', Bool.not_eq_false', Bool.and_eq_true, Bool.and_eq_false_iff, beq_iff_eq, bne_iff_ne, beq_eq_false_iff_ne, bne_eq_false_iff_eq, ne_eq, decide_eq_decide] at h7
    obtain rfl : i = n := by omega
    refine CJ_exit ?_
    refine QJ_then_exit ?_
    refine QJ_then_exit ?_
    refine QJ_in_exit ?_
    refine QJ_then ?_
    refine CJ_seq ?_
    refine CJ_reg ?_
    first | refine LJ_y rfl rfl (YJ_loadN (vs := [_, _]) rfl tyi_29 (by repeat first | exact .head _ | apply List.Mem.tail) rfl rfl) ?_ | refine LJ_y rfl rfl (YJ_loadFactN (vs := [_, _]) rfl tyi_29 (by repeat first | exact .head _ | apply List.Mem.tail) rfl rfl) ?_
    refine LJ_store (cs' := #[_, _]) (μ' := [_, _]) 1 rfl rfl rfl rfl tyi_29 rfl (Nat.le_of_ble_eq_true rfl) rfl rfl rfl ?_
    refine LJ_nil ?_
    refine QJ_then ?_
    refine CJ_ret ?_
    refine QJ_fin (.inl rfl) (μ' := []) (μr := _) (φ' := [numF (2 ^ i) A]) (res_cell (vs := [_, _]) rfl rfl (by repeat first | exact .head _ | apply List.Mem.tail) tyi_29 rfl) (List.Perm.refl _) (AllIn.sub (And.intro (.head _) trivial)) ?_
    exact ⟨(A, c), hc, rfl, rfl, rfl⟩

set_option maxRecDepth 100000 in
set_option maxHeartbeats 1000000 in
theorem nright_c {a : Int} {A : Option Addr} {c : Nat} (ha : dl a ≤ 100000) (hc : dl a ≤ c) : Tri Try.prog 31 [numV a A c] [] [numF a A] (Ret0 (.bool true)) := by
  refine Tri_of (N := 29) Try.func31 rfl ent_31 rfl rfl ?_
  intro w0 S0 T0
  show CJ _ _ _ [(0, _)] _ _
  have hD : dl a = (digits a.natAbs).length := rfl
  refine CJ_seq ?_
  refine CJ_reg ?_
  refine LJ_box (cs := #[_, _]) rfl rfl rfl rfl ?_
  intro b1
  refine LJ_y rfl rfl (YJ_assign rfl) ?_
  refine LJ_nil ?_
  refine QJ_then ?_
  refine CJ_seq ?_
  refine CJ_reg ?_
  first | refine LJ_y rfl rfl (YJ_fieldOwn rfl fld_29_1 rfl) ?_ | refine LJ_y rfl rfl (YJ_fieldAddr rfl fld_29_1) ?_
  first | refine LJ_y rfl rfl (YJ_loadL rfl tyi_27 (by repeat first | exact .head _ | apply List.Mem.tail) rfl) ?_ | refine LJ_y rfl rfl (YJ_loadFact rfl tyi_27 (by repeat first | exact .head _ | apply List.Mem.tail) rfl) ?_
  refine LJ_y rfl rfl (YJ_len rfl ulen_27 rfl) ?_
  refine LJ_y rfl rfl (YJ_bin rfl rfl rfl) ?_
  refine LJ_y rfl rfl (YJ_move rfl) ?_
  refine LJ_boolC (fun h7 => ?_) (fun h7 => ?_)
  · try simp only [decide_eq_true_eq, decide_eq_false_iff_not, Bool.not_eq_true', Bool.not_eq_false', Bool.and_eq_true, Bool.and_eq_false_iff, beq_iff_eq, bne_iff_ne, beq_eq_false_iff_ne, bne_eq_false_iff_eq, ne_eq, decide_eq_decide] at h7
    have hl : dl a = 0 := by omega
    have hz : ¬ a < 0 := by have := digits_len_zero.1 hl; omega
    refine LJ_skip rfl rfl ?_
    refine LJ_skip rfl rfl ?_
    refine LJ_skip rfl rfl ?_
    refine LJ_skip rfl rfl ?_
    refine LJ_skip rfl rfl ?_
    refine LJ_skip rfl rfl ?_
    refine LJ_skip rfl rfl ?_
    refine LJ_skip rfl rfl ?_
    refine LJ_skip rfl rfl ?_
    refine LJ_y rfl rfl (YJ_pickT rfl rfl) ?_
    refine LJ_y rfl rfl (YJ_move rfl) ?_
    refine LJ_bool (c := true) (by first | rfl | exact decide_eq_true (by omega) | simpa using ht) ?_
    first | refine LJ_y rfl rfl (YJ_fieldOwn rfl fld_29_0 rfl) ?_ | refine LJ_y rfl rfl (YJ_fieldAddr rfl fld_29_0) ?_
    first | refine LJ_y rfl rfl (YJ_loadL rfl tyi_4 (by repeat first | exact .head _ | apply List.Mem.tail) rfl) ?_ | refine LJ_y rfl rfl (YJ_loadFact rfl tyi_4 (by repeat first | exact .head _ | apply List.Mem.tail) rfl) ?_
    refine LJ_y rfl rfl (YJ_not rfl) ?_
    refine LJ_y rfl rfl (YJ_move rfl) ?_
    refine LJ_boolC (fun h22 => ?_) (fun h22 => ?_)
    · try simp only [decide_eq_true_eq, decide_eq_false_iff_not, Bool.not_eq_true', Bool.not_eq_false', Bool.and_eq_true, Bool.and_eq_false_iff, beq_iff_eq, bne_iff_ne, beq_eq_false_iff_ne, bne_eq_false_iff_eq, ne_eq, decide_eq_decide] at h22
      refine LJ_skip rfl rfl ?_
      refine LJ_skip rfl rfl ?_
      refine LJ_skip rfl rfl ?_
      refine LJ_skip rfl rfl ?_
      refine LJ_y rfl rfl (YJ_pickT rfl rfl) ?_
      refine LJ_y rfl rfl (YJ_pickT rfl rfl) ?_
      refine LJ_y rfl rfl (YJ_assign rfl) ?_
      refine LJ_nil ?_
      refine QJ_then ?_
      refine CJ_ret ?_
      refine QJ_fin (.inl rfl) (μ' := []) (μr := _) (φ' := []) (res_tmp rfl rfl) (List.Perm.refl _) (fun _ h => nomatch h) ?_
      exact ⟨rfl, rfl, rfl⟩
    · try simp only [decide_eq_true_eq, decide_eq_false_iff_not, Bool.not_eq_true', Bool.not_eq_false', Bool.and_eq_true, Bool.and_eq_false_iff, beq_iff_eq, bne_iff_ne, beq_eq_false_iff_ne, bne_eq_false_iff_eq, ne_eq, decide_eq_decide] at h22
      have hl : 0 < dl a := by unfold dl; rw [Nat.pos_iff_ne_zero]; intro e; have := digits_len_zero.1 e; omega
      first | refine LJ_y rfl rfl (YJ_fieldOwn rfl fld_29_1 rfl) ?_ | refine LJ_y rfl rfl (YJ_fieldAddr rfl fld_29_1) ?_
      first | refine LJ_y rfl rfl (YJ_loadL rfl tyi_27 (by repeat first | exact .head _ | apply List.Mem.tail) rfl) ?_ | refine LJ_y rfl rfl (YJ_loadFact rfl tyi_27 (by repeat first | exact .head _ | apply List.Mem.tail) rfl) ?_
      refine LJ_y rfl rfl (YJ_len rfl ulen_27 rfl) ?_
      refine LJ_y rfl rfl (YJ_bin rfl rfl rfl) ?_
      refine LJ_val (v := .bool true) (congrArg Value.bool (decide_eq_true (by omega))) ?_
      refine LJ_y rfl rfl (YJ_pickF rfl rfl) ?_
      refine LJ_y rfl rfl (YJ_pickT rfl rfl) ?_
      refine LJ_y rfl rfl (YJ_assign rfl) ?_
      refine LJ_nil ?_
      refine QJ_then ?_
      refine CJ_ret ?_
      refine QJ_fin (.inl rfl) (μ' := []) (μr := _) (φ' := []) (res_tmp rfl rfl) (List.Perm.refl _) (fun _ h => nomatch h) ?_
      exact ⟨rfl, rfl, rfl⟩
  · try simp only [decide_eq_true_eq, decide_eq_false_iff_not, Bool.not_eq_true', Bool.not_eq_false', Bool.and_eq_true, Bool.and_eq_false_iff, beq_iff_eq, bne_iff_ne, beq_eq_false_iff_ne, bne_eq_false_iff_eq, ne_eq, decide_eq_decide] at h7
    have hv : a.natAbs ≠ 0 := fun e => h7 (by unfold dl; rw [e, digits_zero]; rfl)
    have ht := digits_top hv
    have hl : dl a ≠ 0 := fun e => h7 (by rw [e]; rfl)
    have hl1 : 0 < (digits a.natAbs).length := by unfold dl at hl; omega
    first | refine LJ_y rfl rfl (YJ_fieldOwn rfl fld_29_1 rfl) ?_ | refine LJ_y rfl rfl (YJ_fieldAddr rfl fld_29_1) ?_
    first | refine LJ_y rfl rfl (YJ_loadL rfl tyi_27 (by repeat first | exact .head _ | apply List.Mem.tail) rfl) ?_ | refine LJ_y rfl rfl (YJ_loadFact rfl tyi_27 (by repeat first | exact .head _ | apply List.Mem.tail) rfl) ?_
    first | refine LJ_y rfl rfl (YJ_fieldOwn rfl fld_29_1 rfl) ?_ | refine LJ_y rfl rfl (YJ_fieldAddr rfl fld_29_1) ?_
    first | refine LJ_y rfl rfl (YJ_loadL rfl tyi_27 (by repeat first | exact .head _ | apply List.Mem.tail) rfl) ?_ | refine LJ_y rfl rfl (YJ_loadFact rfl tyi_27 (by repeat first | exact .head _ | apply List.Mem.tail) rfl) ?_
    refine LJ_y rfl rfl (YJ_len rfl ulen_27 rfl) ?_
    first | refine LJ_y rfl rfl (YJ_bin rfl rfl (iop_sub (by omega))) ?_ | refine LJ_y rfl rfl (YJ_bin rfl rfl rfl) ?_
    first | refine LJ_y rfl rfl (YJ_ixOwn rfl rfl elt_27 (by omega) (by omega)) ?_ | refine LJ_y rfl rfl (YJ_ixFact rfl rfl elt_27 (by repeat first | exact .head _ | apply List.Mem.tail) (by decide) (by omega) (by omega) (by omega)) ?_
    refine LJ_y rfl rfl (YJ_loadFact (xs := U (digits a.natAbs)) rfl tyi_22 (.head _) (U_get' (k := (digits a.natAbs).length - 1) (by rw [hD, Nat.mul_one]; omega) (by omega))) ?_
    refine LJ_y rfl rfl (YJ_bin rfl rfl rfl) ?_
    refine LJ_y rfl rfl (YJ_pickF rfl rfl) ?_
    refine LJ_y rfl rfl (YJ_move rfl) ?_
    refine LJ_bool (c := true) (by first | rfl | exact decide_eq_true (by omega) | simpa using ht) ?_
    first | refine LJ_y rfl rfl (YJ_fieldOwn rfl fld_29_0 rfl) ?_ | refine LJ_y rfl rfl (YJ_fieldAddr rfl fld_29_0) ?_
    first | refine LJ_y rfl rfl (YJ_loadL rfl tyi_4 (by repeat first | exact .head _ | apply List.Mem.tail) rfl) ?_ | refine LJ_y rfl rfl (YJ_loadFact rfl tyi_4 (by repeat first | exact .head _ | apply List.Mem.tail) rfl) ?_
    refine LJ_y rfl rfl (YJ_not rfl) ?_
    refine LJ_y rfl rfl (YJ_move rfl) ?_
    refine LJ_boolC (fun h22 => ?_) (fun h22 => ?_)
    · try simp only [decide_eq_true_eq, decide_eq_false_iff_not, Bool.not_eq_true', Bool.not_eq_false', Bool.and_eq_true, Bool.and_eq_false_iff, beq_iff_eq, bne_iff_ne, beq_eq_false_iff_ne, bne_eq_false_iff_eq, ne_eq, decide_eq_decide] at h22
      refine LJ_skip rfl rfl ?_
      refine LJ_skip rfl rfl ?_
      refine LJ_skip rfl rfl ?_
      refine LJ_skip rfl rfl ?_
      refine LJ_y rfl rfl (YJ_pickT rfl rfl) ?_
      refine LJ_y rfl rfl (YJ_pickT rfl rfl) ?_
      refine LJ_y rfl rfl (YJ_assign rfl) ?_
      refine LJ_nil ?_
      refine QJ_then ?_
      refine CJ_ret ?_
      refine QJ_fin (.inl rfl) (μ' := []) (μr := _) (φ' := []) (res_tmp rfl rfl) (List.Perm.refl _) (fun _ h => nomatch h) ?_
      exact ⟨rfl, rfl, rfl⟩
    · try simp only [decide_eq_true_eq, decide_eq_false_iff_not, Bool.not_eq_true', Bool.not_eq_false', Bool.and_eq_true, Bool.and_eq_false_iff, beq_iff_eq, bne_iff_ne, beq_eq_false_iff_ne, bne_eq_false_iff_eq, ne_eq, decide_eq_decide] at h22
      have hl : 0 < dl a := by unfold dl; rw [Nat.pos_iff_ne_zero]; intro e; have := digits_len_zero.1 e; omega
      first | refine LJ_y rfl rfl (YJ_fieldOwn rfl fld_29_1 rfl) ?_ | refine LJ_y rfl rfl (YJ_fieldAddr rfl fld_29_1) ?_
      first | refine LJ_y rfl rfl (YJ_loadL rfl tyi_27 (by repeat first | exact .head _ | apply List.Mem.tail) rfl) ?_ | refine LJ_y rfl rfl (YJ_loadFact rfl tyi_27 (by repeat first | exact .head _ | apply List.Mem.tail) rfl) ?_
      refine LJ_y rfl rfl (YJ_len rfl ulen_27 rfl) ?_
      refine LJ_y rfl rfl (YJ_bin rfl rfl rfl) ?_
      refine LJ_val (v := .bool true) (congrArg Value.bool (decide_eq_true (by omega))) ?_
      refine LJ_y rfl rfl (YJ_pickF rfl rfl) ?_
      refine LJ_y rfl rfl (YJ_pickT rfl rfl) ?_
      refine LJ_y rfl rfl (YJ_assign rfl) ?_
      refine LJ_nil ?_
      refine QJ_then ?_
      refine CJ_ret ?_
      refine QJ_fin (.inl rfl) (μ' := []) (μr := _) (φ' := []) (res_tmp rfl rfl) (List.Perm.refl _) (fun _ h => nomatch h) ?_
      exact ⟨rfl, rfl, rfl⟩


theorem det1234 : (if R128 (det 1 2 3 4) then det 1 2 3 4 else 0) = -2 := by decide
theorem sgn_self (a : Int) : sgn (a - a) = 0 := by rw [Int.sub_self]; rfl
theorem r128_2 : R128 (-2) := by decide
theorem dl_127 : dl (2 ^ 127) ≤ 40000 := Nat.le_trans (dl_le (k := 2) (by unfold BB; decide)) (by decide)
theorem dl_127n : dl (-2 ^ 127) ≤ 40000 := by rw [dl_neg]; exact dl_127
theorem fits_T {a : Int} (h : 0 ≤ sgn (a - -2 ^ 127)) : decide (sgn (a - 2 ^ 127) < 0) = decide (R128 a) := by
  rw [decide_eq_decide]
  unfold R128
  have h1 := sgn_cases (a - -2 ^ 127)
  have h2 := sgn_cases (a - 2 ^ 127)
  omega
theorem fits_F {a : Int} (h : ¬ 0 ≤ sgn (a - -2 ^ 127)) : false = decide (R128 a) := by
  symm
  rw [decide_eq_false_iff_not]
  unfold R128
  have h1 := sgn_cases (a - -2 ^ 127)
  omega
theorem dl_big {a : Int} (h : R128 a) : dl a ≤ 40000 := Nat.le_trans (dl_r128 h) (by decide)


set_option maxRecDepth 100000 in
set_option maxHeartbeats 1000000 in
theorem fit_c  : Tri Try.prog 14 [] [] [] (Ret0 (.bool true)) := by
  refine Tri_of (N := 19) Try.func14 rfl ent_14 rfl rfl ?_
  intro w0 S0 T0
  show CJ _ _ _ [] _ _
  refine CJ_seq ?_
  refine CJ_reg ?_
  refine LJ_y rfl rfl (YJ_assign rfl) ?_
  refine LJ_nil ?_
  refine QJ_then ?_
  refine CJ_seq ?_
  refine CJ_reg ?_
  refine LJ_callX rfl rfl rfl rfl rfl (wdet_c (a := 1) (b := 2) (c := 3) (d := 4) (by unfold I64; omega) (by unfold I64; omega) (by unfold I64; omega) (by unfold I64; omega)) (AllIn.sub (by first | exact trivial | exact And.intro (by repeat first | exact .head _ | apply List.Mem.tail) trivial | exact And.intro (by repeat first | exact .head _ | apply List.Mem.tail) (And.intro (by repeat first | exact .head _ | apply List.Mem.tail) trivial))) ?_
  rintro ⟨hih, loh⟩ h
  dsimp only [wvP, List.cons_append, List.nil_append] at h ⊢
  rw [det1234] at h
  refine LJ_alloc (cs := #[_, _]) rfl rfl zer_24 rfl ?_
  intro b1
  refine LJ_store (cs' := #[_, _]) (μ' := [_]) 0 rfl rfl rfl rfl tyi_24 rfl (Nat.le_of_ble_eq_true rfl) rfl rfl rfl ?_
  refine LJ_nil ?_
  refine QJ_then ?_
  refine CJ_seq ?_
  refine CJ_regD mix (by kernel_rfl) (fun _ _ _ _ _ h => h) _ _ (fun _ h => h) (fun _ h => h) ?_
  first | refine AJ_y 0 rfl (by kernel_rfl) (by kernel_rfl) rfl rfl (YJ_loadN (vs := [_, _]) rfl tyi_24 (by repeat first | exact .head _ | apply List.Mem.tail) rfl rfl) ?_ | refine AJ_y 0 rfl (by kernel_rfl) (by kernel_rfl) rfl rfl (YJ_loadFactN (vs := [_, _]) rfl tyi_24 (by repeat first | exact .head _ | apply List.Mem.tail) rfl rfl) ?_
  refine AJ_call0 1 rfl (by kernel_rfl) rfl rfl rfl rfl rfl (wsign_c h r128_2) (AllIn.sub (by first | exact trivial | exact And.intro (by repeat first | exact .head _ | apply List.Mem.tail) trivial | exact And.intro (by repeat first | exact .head _ | apply List.Mem.tail) (And.intro (by repeat first | exact .head _ | apply List.Mem.tail) trivial))) ?_
  refine AJ_y 2 rfl (by kernel_rfl) (by kernel_rfl) rfl rfl (YJ_bin rfl rfl rfl) ?_
  refine AJ_y 3 rfl (by kernel_rfl) (by kernel_rfl) rfl rfl (YJ_move rfl) ?_
  refine AJ_bool (c := true) rfl ?_
  first | refine AJ_y 4 rfl (by kernel_rfl) (by kernel_rfl) rfl rfl (YJ_loadN (vs := [_, _]) rfl tyi_24 (by repeat first | exact .head _ | apply List.Mem.tail) rfl rfl) ?_ | refine AJ_y 4 rfl (by kernel_rfl) (by kernel_rfl) rfl rfl (YJ_loadFactN (vs := [_, _]) rfl tyi_24 (by repeat first | exact .head _ | apply List.Mem.tail) rfl rfl) ?_
  refine AJ_callX 5 rfl (by kernel_rfl) rfl rfl rfl rfl rfl (wnum_c h r128_2) (AllIn.sub (by first | exact trivial | exact And.intro (by repeat first | exact .head _ | apply List.Mem.tail) trivial | exact And.intro (by repeat first | exact .head _ | apply List.Mem.tail) (And.intro (by repeat first | exact .head _ | apply List.Mem.tail) trivial))) ?_
  rintro ⟨A1, c1⟩ hcap1
  dsimp only at hcap1
  dsimp only [List.cons_append, List.nil_append]
  refine AJ_callX 6 rfl (by kernel_rfl) rfl rfl rfl rfl rfl (nof_c (z := -2) (by unfold I64; omega)) (AllIn.sub (by first | exact trivial | exact And.intro (by repeat first | exact .head _ | apply List.Mem.tail) trivial | exact And.intro (by repeat first | exact .head _ | apply List.Mem.tail) (And.intro (by repeat first | exact .head _ | apply List.Mem.tail) trivial))) ?_
  rintro ⟨A2, c2⟩ hcap2
  dsimp only at hcap2
  dsimp only [List.cons_append, List.nil_append]
  refine AJ_call0 7 rfl (by kernel_rfl) rfl rfl rfl rfl rfl (ncmp_c (dl_big r128_2) (dl_big r128_2) hcap1 hcap2) (AllIn.sub (And.intro (by repeat first | exact .head _ | apply List.Mem.tail) (And.intro (by repeat first | exact .head _ | apply List.Mem.tail) trivial))) ?_
  refine AJ_y 8 rfl (by kernel_rfl) (by kernel_rfl) rfl rfl (YJ_bin rfl rfl rfl) ?_
  refine AJ_bool (c := true) rfl ?_
  refine AJ_y 9 rfl (by kernel_rfl) (by kernel_rfl) rfl rfl (YJ_pickT rfl rfl) ?_
  refine AJ_y 10 rfl (by kernel_rfl) (by kernel_rfl) rfl rfl (YJ_move rfl) ?_
  first | refine AJ_y 11 rfl (by kernel_rfl) (by kernel_rfl) rfl rfl (YJ_loadN (vs := [_, _]) rfl tyi_24 (by repeat first | exact .head _ | apply List.Mem.tail) rfl rfl) ?_ | refine AJ_y 11 rfl (by kernel_rfl) (by kernel_rfl) rfl rfl (YJ_loadFactN (vs := [_, _]) rfl tyi_24 (by repeat first | exact .head _ | apply List.Mem.tail) rfl rfl) ?_
  refine AJ_callX 12 rfl (by kernel_rfl) rfl rfl rfl rfl rfl (wof_c (n := -2) (by unfold I64; omega)) (AllIn.sub (by first | exact trivial | exact And.intro (by repeat first | exact .head _ | apply List.Mem.tail) trivial | exact And.intro (by repeat first | exact .head _ | apply List.Mem.tail) (And.intro (by repeat first | exact .head _ | apply List.Mem.tail) trivial))) ?_
  rintro ⟨hik, lok⟩ k
  dsimp only [wvP, List.cons_append, List.nil_append] at k ⊢
  refine AJ_call0 13 rfl (by kernel_rfl) rfl rfl rfl rfl rfl (wcmp_c h k r128_2 r128_2) (AllIn.sub (by first | exact trivial | exact And.intro (by repeat first | exact .head _ | apply List.Mem.tail) trivial | exact And.intro (by repeat first | exact .head _ | apply List.Mem.tail) (And.intro (by repeat first | exact .head _ | apply List.Mem.tail) trivial))) ?_
  refine AJ_y 14 rfl (by kernel_rfl) (by kernel_rfl) rfl rfl (YJ_bin rfl rfl rfl) ?_
  refine AJ_val (v := .bool true) (rfl) ?_
  refine AJ_y 15 rfl (by kernel_rfl) (by kernel_rfl) rfl rfl (YJ_pickT rfl rfl) ?_
  refine AJ_y 16 rfl (by kernel_rfl) (by kernel_rfl) rfl rfl (YJ_assign rfl) ?_
  refine AJ_done (by kernel_rfl) ?_
  refine QJ_then ?_
  refine CJ_ret ?_
  refine QJ_fin (.inl rfl) (μ' := []) (μr := _) (φ' := []) (res_tmp rfl rfl) (List.Perm.refl _) (fun _ h => nomatch h) ?_
  exact ⟨rfl, rfl, rfl⟩

set_option maxRecDepth 100000 in
set_option maxHeartbeats 1000000 in
theorem fits_c {a : Int} {A : Option Addr} {c : Nat} (ha : dl a ≤ 40000) (hc : dl a ≤ c) : Tri Try.prog 30 [numV a A c] [] [numF a A] (Ret0 (.bool (decide (R128 a)))) := by
  refine Tri_of (N := 16) Try.func30 rfl ent_30 rfl rfl ?_
  intro w0 S0 T0
  show CJ _ _ _ [(0, _)] _ _
  refine CJ_seq ?_
  refine CJ_reg ?_
  refine LJ_box (cs := #[_, _]) rfl rfl rfl rfl ?_
  intro b1
  refine LJ_y rfl rfl (YJ_assign rfl) ?_
  refine LJ_nil ?_
  refine QJ_then ?_
  refine CJ_seq ?_
  refine CJ_reg ?_
  refine LJ_callX rfl rfl rfl rfl rfl (power_c (n := 127) (by decide)) (AllIn.sub (by first | exact trivial | exact And.intro (by repeat first | exact .head _ | apply List.Mem.tail) trivial | exact And.intro (by repeat first | exact .head _ | apply List.Mem.tail) (And.intro (by repeat first | exact .head _ | apply List.Mem.tail) trivial))) ?_
  rintro ⟨A1, c1⟩ hcap1
  dsimp only at hcap1
  dsimp only [List.cons_append, List.nil_append]
  refine LJ_alloc (cs := #[_, _]) rfl rfl zer_29 rfl ?_
  intro b2
  refine LJ_store (cs' := #[_, _]) (μ' := [_, _]) 0 rfl rfl rfl rfl tyi_29 rfl (Nat.le_of_ble_eq_true rfl) rfl rfl rfl ?_
  refine LJ_nil ?_
  refine QJ_then ?_
  refine CJ_seq ?_
  refine CJ_regD mix (by kernel_rfl) (fun _ _ _ _ _ h => h) _ _ (fun _ h => h) (fun _ h => h) ?_
  first | refine AJ_y 0 rfl (by kernel_rfl) (by kernel_rfl) rfl rfl (YJ_loadN (vs := [_, _]) rfl tyi_29 (by repeat first | exact .head _ | apply List.Mem.tail) rfl rfl) ?_ | refine AJ_y 0 rfl (by kernel_rfl) (by kernel_rfl) rfl rfl (YJ_loadFactN (vs := [_, _]) rfl tyi_29 (by repeat first | exact .head _ | apply List.Mem.tail) rfl rfl) ?_
  first | refine AJ_y 1 rfl (by kernel_rfl) (by kernel_rfl) rfl rfl (YJ_loadN (vs := [_, _]) rfl tyi_29 (by repeat first | exact .head _ | apply List.Mem.tail) rfl rfl) ?_ | refine AJ_y 1 rfl (by kernel_rfl) (by kernel_rfl) rfl rfl (YJ_loadFactN (vs := [_, _]) rfl tyi_29 (by repeat first | exact .head _ | apply List.Mem.tail) rfl rfl) ?_
  refine AJ_callX 2 rfl (by kernel_rfl) rfl rfl rfl rfl rfl (nneg_c (a := 2 ^ 127) (Nat.le_trans dl_127 (by decide)) hcap1) (AllIn.sub (by first | exact trivial | exact And.intro (by repeat first | exact .head _ | apply List.Mem.tail) trivial | exact And.intro (by repeat first | exact .head _ | apply List.Mem.tail) (And.intro (by repeat first | exact .head _ | apply List.Mem.tail) trivial))) ?_
  rintro ⟨A2, c2⟩ hcap2
  dsimp only at hcap2
  dsimp only [List.cons_append, List.nil_append]
  refine AJ_call0 3 rfl (by kernel_rfl) rfl rfl rfl rfl rfl (ncmp_c (b := -2 ^ 127) ha dl_127n hc hcap2) (AllIn.sub (And.intro (by repeat first | exact .head _ | apply List.Mem.tail) (And.intro (by repeat first | exact .head _ | apply List.Mem.tail) trivial))) ?_
  refine AJ_y 4 rfl (by kernel_rfl) (by kernel_rfl) rfl rfl (YJ_bin rfl rfl rfl) ?_
  refine AJ_y 5 rfl (by kernel_rfl) (by kernel_rfl) rfl rfl (YJ_move rfl) ?_
  refine AJ_boolC (fun h10 => ?_) (fun h10 => ?_)
  · try simp only [decide_eq_true_eq, decide_eq_false_iff_not, Bool.not_eq_true', Bool.not_eq_false', Bool.and_eq_true, Bool.and_eq_false_iff, beq_iff_eq, bne_iff_ne, beq_eq_false_iff_ne, bne_eq_false_iff_eq, ne_eq, decide_eq_decide] at h10
    first | refine AJ_y 6 rfl (by kernel_rfl) (by kernel_rfl) rfl rfl (YJ_loadN (vs := [_, _]) rfl tyi_29 (by repeat first | exact .head _ | apply List.Mem.tail) rfl rfl) ?_ | refine AJ_y 6 rfl (by kernel_rfl) (by kernel_rfl) rfl rfl (YJ_loadFactN (vs := [_, _]) rfl tyi_29 (by repeat first | exact .head _ | apply List.Mem.tail) rfl rfl) ?_
    first | refine AJ_y 7 rfl (by kernel_rfl) (by kernel_rfl) rfl rfl (YJ_loadN (vs := [_, _]) rfl tyi_29 (by repeat first | exact .head _ | apply List.Mem.tail) rfl rfl) ?_ | refine AJ_y 7 rfl (by kernel_rfl) (by kernel_rfl) rfl rfl (YJ_loadFactN (vs := [_, _]) rfl tyi_29 (by repeat first | exact .head _ | apply List.Mem.tail) rfl rfl) ?_
    refine AJ_call0 8 rfl (by kernel_rfl) rfl rfl rfl rfl rfl (ncmp_c (b := 2 ^ 127) ha dl_127 hc hcap1) (AllIn.sub (And.intro (by repeat first | exact .head _ | apply List.Mem.tail) (And.intro (by repeat first | exact .head _ | apply List.Mem.tail) trivial))) ?_
    refine AJ_y 9 rfl (by kernel_rfl) (by kernel_rfl) rfl rfl (YJ_bin rfl rfl rfl) ?_
    refine AJ_y 10 rfl (by kernel_rfl) (by kernel_rfl) rfl rfl (YJ_pickT rfl rfl) ?_
    refine AJ_y 11 rfl (by kernel_rfl) (by kernel_rfl) rfl rfl (YJ_assign rfl) ?_
    refine AJ_done (by kernel_rfl) ?_
    refine QJ_then ?_
    refine CJ_ret ?_
    refine QJ_fin (.inl rfl) (μ' := []) (μr := _) (φ' := []) (res_tmp rfl rfl) (List.Perm.refl _) (fun _ h => nomatch h) ?_
    exact ⟨congrArg Value.bool (fits_T h10), rfl, rfl⟩
  · try simp only [decide_eq_true_eq, decide_eq_false_iff_not, Bool.not_eq_true', Bool.not_eq_false', Bool.and_eq_true, Bool.and_eq_false_iff, beq_iff_eq, bne_iff_ne, beq_eq_false_iff_ne, bne_eq_false_iff_eq, ne_eq, decide_eq_decide] at h10
    refine AJ_skip 6 rfl (by kernel_rfl) (by kernel_rfl) rfl rfl ?_
    refine AJ_skip 7 rfl (by kernel_rfl) (by kernel_rfl) rfl rfl ?_
    refine AJ_skip 8 rfl (by kernel_rfl) (by kernel_rfl) rfl rfl ?_
    refine AJ_skip 9 rfl (by kernel_rfl) (by kernel_rfl) rfl rfl ?_
    refine AJ_y 10 rfl (by kernel_rfl) (by kernel_rfl) rfl rfl (YJ_pickF rfl rfl) ?_
    refine AJ_y 11 rfl (by kernel_rfl) (by kernel_rfl) rfl rfl (YJ_assign rfl) ?_
    refine AJ_done (by kernel_rfl) ?_
    refine QJ_then ?_
    refine CJ_ret ?_
    refine QJ_fin (.inl rfl) (μ' := []) (μr := _) (φ' := []) (res_tmp rfl rfl) (List.Perm.refl _) (fun _ h => nomatch h) ?_
    exact ⟨congrArg Value.bool (fits_F h10), rfl, rfl⟩

set_option maxRecDepth 100000 in
set_option maxHeartbeats 1000000 in
theorem wis_c {hi lo n : Int} {A : Option Addr} {c : Nat} (h : IsW hi lo (if R128 n then n else 0)) (hn : dl n ≤ 40000) (hc : dl n ≤ c) : Tri Try.prog 26 [.agg #[.int .u64 hi, .int .u64 lo], .bool (decide (R128 n)), numV n A c] [] [numF n A] (Ret0 (.bool true)) := by
  refine Tri_of (N := 25) Try.func26 rfl ent_26 rfl rfl ?_
  intro w0 S0 T0
  show CJ _ _ _ [(0, _), (1, _), (2, _)] _ _
  refine CJ_seq ?_
  refine CJ_reg ?_
  refine LJ_box (cs := #[_, _]) rfl rfl rfl rfl ?_
  intro b1
  refine LJ_box (cs := #[_, _]) rfl rfl rfl rfl ?_
  intro b2
  refine LJ_y rfl rfl (YJ_assign rfl) ?_
  refine LJ_nil ?_
  refine QJ_then ?_
  refine CJ_seq ?_
  refine CJ_seq ?_
  refine CJ_reg ?_
  first | refine LJ_y rfl rfl (YJ_loadN (vs := [_, _]) rfl tyi_29 (by repeat first | exact .head _ | apply List.Mem.tail) rfl rfl) ?_ | refine LJ_y rfl rfl (YJ_loadFactN (vs := [_, _]) rfl tyi_29 (by repeat first | exact .head _ | apply List.Mem.tail) rfl rfl) ?_
  refine LJ_call0 rfl rfl rfl rfl rfl (fits_c hn hc) (AllIn.sub (And.intro (by repeat first | exact .head _ | apply List.Mem.tail) trivial)) ?_
  refine LJ_y rfl rfl (YJ_not rfl) ?_
  refine LJ_nil ?_
  refine QJ_then ?_
  refine CJ_cond rfl (fun h9 => ?_) (fun h9 => ?_)
  · try simp only [decide_eq_true_eq, decide_eq_false_iff_not, Bool.not_eq_true', Bool.not_eq_false', Bool.and_eq_true, Bool.and_eq_false_iff, beq_iff_eq, bne_iff_ne, beq_eq_false_iff_ne, bne_eq_false_iff_eq, ne_eq, decide_eq_decide] at h9
    rw [if_neg h9] at h
    obtain ⟨rfl, rfl⟩ := (h.zero (by decide)).2 rfl
    refine CJ_seq ?_
    refine CJ_reg ?_
    refine LJ_y rfl rfl (YJ_move rfl) ?_
    refine LJ_y rfl rfl (YJ_not rfl) ?_
    refine LJ_y rfl rfl (YJ_move rfl) ?_
    refine LJ_bool (c := true) (by rw [decide_eq_false h9]; rfl) ?_
    first | refine LJ_y rfl rfl (YJ_loadN (vs := [_, _]) rfl tyi_24 (by repeat first | exact .head _ | apply List.Mem.tail) rfl rfl) ?_ | refine LJ_y rfl rfl (YJ_loadFactN (vs := [_, _]) rfl tyi_24 (by repeat first | exact .head _ | apply List.Mem.tail) rfl rfl) ?_
    refine LJ_y rfl rfl (YJ_build1 (cs := [_, _]) lay_24 rfl rfl rfl) ?_
    refine LJ_y rfl rfl (YJ_eqs rfl rfl (fun _ => eqs_eql_24 ..)) ?_
    refine LJ_y rfl rfl (YJ_pickT rfl rfl) ?_
    refine LJ_y rfl rfl (YJ_assign rfl) ?_
    refine LJ_nil ?_
    refine QJ_then ?_
    refine CJ_ret ?_
    refine QJ_then_ret ?_
    refine QJ_fin (.inl rfl) (μ' := []) (μr := _) (φ' := []) (res_tmp rfl rfl) (List.Perm.refl _) (fun _ h => nomatch h) ?_
    exact ⟨rfl, rfl, rfl⟩
  · try simp only [decide_eq_true_eq, decide_eq_false_iff_not, Bool.not_eq_true', Bool.not_eq_false', Bool.and_eq_true, Bool.and_eq_false_iff, beq_iff_eq, bne_iff_ne, beq_eq_false_iff_ne, bne_eq_false_iff_eq, ne_eq, decide_eq_decide] at h9
    rw [if_pos h9] at h
    refine CJ_skip ?_
    refine QJ_then ?_
    refine CJ_seq ?_
    refine CJ_regD mix (by kernel_rfl) (fun _ _ _ _ _ h => h) _ _ (fun _ h => h) (fun _ h => h) ?_
    refine AJ_y 0 rfl (by kernel_rfl) (by kernel_rfl) rfl rfl (YJ_move rfl) ?_
    refine AJ_y 1 rfl (by kernel_rfl) (by kernel_rfl) rfl rfl (YJ_move rfl) ?_
    refine AJ_bool (c := true) (decide_eq_true h9) ?_
    first | refine AJ_y 2 rfl (by kernel_rfl) (by kernel_rfl) rfl rfl (YJ_loadN (vs := [_, _]) rfl tyi_24 (by repeat first | exact .head _ | apply List.Mem.tail) rfl rfl) ?_ | refine AJ_y 2 rfl (by kernel_rfl) (by kernel_rfl) rfl rfl (YJ_loadFactN (vs := [_, _]) rfl tyi_24 (by repeat first | exact .head _ | apply List.Mem.tail) rfl rfl) ?_
    first | refine AJ_y 4 rfl (by kernel_rfl) (by kernel_rfl) rfl rfl (YJ_loadN (vs := [_, _]) rfl tyi_29 (by repeat first | exact .head _ | apply List.Mem.tail) rfl rfl) ?_ | refine AJ_y 4 rfl (by kernel_rfl) (by kernel_rfl) rfl rfl (YJ_loadFactN (vs := [_, _]) rfl tyi_29 (by repeat first | exact .head _ | apply List.Mem.tail) rfl rfl) ?_
    refine AJ_callX 3 rfl (by kernel_rfl) rfl rfl rfl rfl rfl (wnum_c h h9) (AllIn.sub (by first | exact trivial | exact And.intro (by repeat first | exact .head _ | apply List.Mem.tail) trivial | exact And.intro (by repeat first | exact .head _ | apply List.Mem.tail) (And.intro (by repeat first | exact .head _ | apply List.Mem.tail) trivial))) ?_
    rintro ⟨A1, c1⟩ hcap1
    dsimp only at hcap1
    dsimp only [List.cons_append, List.nil_append]
    refine AJ_call0 5 rfl (by kernel_rfl) rfl rfl rfl rfl rfl (ncmp_c hn hn hcap1 hc) (AllIn.sub (And.intro (by repeat first | exact .head _ | apply List.Mem.tail) (And.intro (by repeat first | exact .head _ | apply List.Mem.tail) trivial))) ?_
    refine AJ_y 6 rfl (by kernel_rfl) (by kernel_rfl) rfl rfl (YJ_bin rfl rfl rfl) ?_
    refine AJ_val (v := .bool true) (congrArg Value.bool (decide_eq_true (sgn_self n))) ?_
    refine AJ_y 7 rfl (by kernel_rfl) (by kernel_rfl) rfl rfl (YJ_pickT rfl rfl) ?_
    refine AJ_y 8 rfl (by kernel_rfl) (by kernel_rfl) rfl rfl (YJ_assign rfl) ?_
    refine AJ_done (by kernel_rfl) ?_
    refine QJ_then ?_
    refine CJ_ret ?_
    refine QJ_fin (.inl rfl) (μ' := []) (μr := _) (φ' := []) (res_tmp rfl rfl) (List.Perm.refl _) (fun _ h => nomatch h) ?_
    exact ⟨rfl, rfl, rfl⟩

end Go.Proofs.Ytggbdfnoehienaa
