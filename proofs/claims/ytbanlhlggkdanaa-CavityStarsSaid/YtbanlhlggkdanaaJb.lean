/- What the law CavityStars needs. Part 2: the texts of W4 M5 N1 N2 N3 L2 L3 P1 P2 P3 P4 Q1 Q2 Msh G1 G2 Itr Gro G3. -/
import Derived.Test.YtbanlhlggkdanaaJa
import Derived.LoopN
import Derived.LoopNIn
set_option linter.unusedSimpArgs false
set_option linter.unusedVariables false
namespace Go.Proofs.Ytbanlhlggkdanaa
open Go.RowKit
theorem ent_104 : Enter Try.prog 104 = true := by kernel_rfl
theorem iop_addu {a b : Int} (h : 0 ≤ a + b ∧ a + b < 18446744073709551616) : iop .add .u64 a b = some (.int .u64 (a + b)) := by
 simp only [iop, IntKind.wrap_u64]; congr 2; omega
theorem times_core {H L A k : Int} (h : IsW H L A) (h0 : 0 ≤ A) (h1 : A ≤ 170141183460469231731687303715884105728) (k0 : 0 ≤ k) (k1 : k ≤ 9223372036854775808) :
  0 ≤ H * k ∧ H * k ≤ 85070591730234615865843651857942052864 ∧ 0 ≤ L * k ∧ L * k < 170141183460469231731687303715884105728 ∧ A * k = (H * k) * 18446744073709551616 + L * k := by
 unfold IsW at h
 have hH : 0 ≤ H ∧ H ≤ 9223372036854775808 := by omega
 have hL : 0 ≤ L ∧ L ≤ 18446744073709551615 := by omega
 have e : A = H * 18446744073709551616 + L := by omega
 have m1 := Int.mul_le_mul hH.2 k1 k0 (by omega)
 have m2 := Int.mul_le_mul hL.2 k1 k0 (by omega)
 have m3 := Int.mul_nonneg hH.1 k0
 have m4 := Int.mul_nonneg hL.1 k0
 refine ⟨m3, by omega, m4, by omega, ?_⟩
 rw [e, Int.add_mul, Int.mul_assoc, Int.mul_comm 18446744073709551616 k, ← Int.mul_assoc]
theorem times_words {u v P : Int} (h0 : 0 ≤ u) (h1 : u ≤ 85070591730234615865843651857942052864) (h2 : 0 ≤ v) (h3 : v < 170141183460469231731687303715884105728) (e : P = u * 18446744073709551616 + v) :
  IsW ((u % 18446744073709551616 + v / 18446744073709551616 + 0) % 18446744073709551616) (v % 18446744073709551616) P ∧ (u / 18446744073709551616 + (u % 18446744073709551616 + v / 18446744073709551616 + 0) / 18446744073709551616 = P / 340282366920938463463374607431768211456) ∧ 0 ≤ P := by
 unfold IsW
 omega
theorem times_big {p t o : Int} {c : Prop} [Decidable c] (q7 : o = p / 340282366920938463463374607431768211456) (q10 : p = if c then t else -t) (h : 0 < o) : ¬ R128 t := by
 unfold R128; split at q10 <;> omega
theorem times_dy {p t o hi lo b : Int} {c : Prop} [Decidable c] (q7 : o = p / 340282366920938463463374607431768211456) (q8 : 0 ≤ p) (q10 : p = if c then t else -t) (h : ¬ 0 < o) (hc : ¬ c) (ht : IsW hi lo (-p)) (g : hi / 9223372036854775808 = 1 ∨ (hi = 0 ∧ lo = 0)) (hb : b = t) : R128 b ∧ IsW hi lo b := by
 subst hb
 rw [if_neg hc] at q10
 unfold IsW at *; unfold R128; omega
theorem times_dn {p t o hi lo : Int} {c : Prop} [Decidable c] (q7 : o = p / 340282366920938463463374607431768211456) (q8 : 0 ≤ p) (q10 : p = if c then t else -t) (h : ¬ 0 < o) (hc : ¬ c) (ht : IsW hi lo (-p)) (g : ¬ hi / 9223372036854775808 = 1 ∧ (¬ hi = 0 ∨ ¬ lo = 0)) : ¬ R128 t := by
 rw [if_neg hc] at q10
 unfold IsW at *; unfold R128; omega
theorem times_uy {p t o hi lo : Int} {c : Prop} [Decidable c] (q7 : o = p / 340282366920938463463374607431768211456) (q8 : 0 ≤ p) (q10 : p = if c then t else -t) (h : ¬ 0 < o) (hc : c) (ht : IsW hi lo p) (g : ¬ hi / 9223372036854775808 = 1) : R128 t ∧ IsW hi lo t := by
 rw [if_pos hc] at q10
 unfold IsW at *; unfold R128; omega
theorem times_un {p t o hi lo : Int} {c : Prop} [Decidable c] (q7 : o = p / 340282366920938463463374607431768211456) (q8 : 0 ≤ p) (q10 : p = if c then t else -t) (h : ¬ 0 < o) (hc : c) (ht : IsW hi lo p) (g : hi / 9223372036854775808 = 1) : ¬ R128 t := by
 rw [if_pos hc] at q10
 unfold IsW at *; unfold R128; omega
theorem RetWo_yes' {n hi lo : Int} (h : R128 n ∧ IsW hi lo n) : RetWo n (.tuple #[.agg #[.int .u64 hi, .int .u64 lo], .bool true]) [] [] := RetWo_yes h.2 h.1
set_option maxRecDepth 100000 in
set_option maxHeartbeats 4000000 in
theorem wtimes_c {hi lo a n : Int} (h : IsW hi lo a) (ra : R128 a) (hn : I64 n) : Tri Try.prog 104 [.agg #[.int .u64 hi, .int .u64 lo], .int .i64 n] [] [] (RetWo (a * n)) := by
 refine Tri_of (N := 76) Try.func104 rfl ent_104 rfl rfl ?_
 intro w0 S0 T0
 show CJ _ _ _ [(0, _), (1, _)] _ _
 have g1 := h.neg ra
 have hb := h.b
 refine CJ_seq ?_
 refine CJ_reg ?_
 refine LJ_box (cs := #[_, _]) rfl rfl rfl rfl ?_
 intro b1
 refine LJ_alloc (cs := #[_, _]) rfl rfl zer_110 rfl ?_
 intro b2
 refine LJ_y rfl rfl (YJ_assign rfl) ?_
 refine LJ_nil ?_
 refine QJ_then ?_
 refine CJ_seq ?_
 refine CJ_reg ?_
 refine LJ_y rfl rfl (YJ_loadN (vs := [_, _]) rfl tyi_110 m1 rfl rfl) ?_
 refine LJ_call0 rfl rfl rfl rfl rfl (minus_c _ _) (AllIn.sub (by first | exact trivial | exact And.intro (by repeat first | exact .head _ | apply List.Mem.tail) trivial | exact And.intro (by repeat first | exact .head _ | apply List.Mem.tail) (And.intro (by repeat first | exact .head _ | apply List.Mem.tail) trivial))) ?_
 refine LJ_y rfl rfl (YJ_move rfl) ?_
 refine LJ_y rfl rfl (YJ_bin rfl rfl rfl) ?_
 refine LJ_y rfl rfl (YJ_neb rfl rfl ubool_4) ?_
 refine LJ_y rfl rfl (YJ_assign rfl) ?_
 refine LJ_nil ?_
 refine QJ_then ?_
 refine CJ_seq ?_
 refine CJ_seq ?_
 refine CJ_reg ?_
 refine LJ_y rfl rfl (YJ_loadN (vs := [_, _]) rfl tyi_110 m1 rfl rfl) ?_
 refine LJ_call0 rfl rfl rfl rfl rfl (minus_c _ _) (AllIn.sub (by first | exact trivial | exact And.intro (by repeat first | exact .head _ | apply List.Mem.tail) trivial | exact And.intro (by repeat first | exact .head _ | apply List.Mem.tail) (And.intro (by repeat first | exact .head _ | apply List.Mem.tail) trivial))) ?_
 refine LJ_nil ?_
 refine QJ_then ?_
 refine CJ_cond rfl (fun h20 => ?_) (fun h20 => ?_)
 ·simp only [decide_eq_true_eq] at h20
  refine CJ_reg ?_
  refine LJ_y rfl rfl (YJ_loadN (vs := [_, _]) rfl tyi_110 m1 rfl rfl) ?_
  refine LJ_callX rfl rfl rfl rfl rfl (turn_c h) (AllIn.sub (by first | exact trivial | exact And.intro (by repeat first | exact .head _ | apply List.Mem.tail) trivial | exact And.intro (by repeat first | exact .head _ | apply List.Mem.tail) (And.intro (by repeat first | exact .head _ | apply List.Mem.tail) trivial))) ?_
  rintro ⟨hi1, lo1⟩ ht
  have hb1 := ht.b
  refine LJ_store (cs' := #[_, _]) (μ' := [_, _]) 1 rfl rfl rfl rfl tyi_110 rfl (Nat.le_of_ble_eq_true rfl) rfl rfl rfl ?_
  refine LJ_nil ?_
  refine QJ_then ?_
  refine CJ_seq ?_
  refine CJ_reg ?_
  refine LJ_y rfl rfl (YJ_move rfl) ?_
  refine LJ_call0 rfl rfl rfl rfl rfl (abs_c hn) (AllIn.sub (by first | exact trivial | exact And.intro (by repeat first | exact .head _ | apply List.Mem.tail) trivial | exact And.intro (by repeat first | exact .head _ | apply List.Mem.tail) (And.intro (by repeat first | exact .head _ | apply List.Mem.tail) trivial))) ?_
  refine LJ_y rfl rfl (YJ_assign rfl) ?_
  have k0 : (0 : Int) ≤ n.natAbs ∧ (n.natAbs : Int) ≤ 9223372036854775808 := by unfold I64 at hn; omega
  have q := times_core (A := -a) (k := n.natAbs) ht (by unfold R128 at ra; omega) (by unfold R128 at ra; omega) k0.1 k0.2
  obtain ⟨q1, q2, q3, q4, q5⟩ := q
  have q6 := times_words q1 q2 q3 q4 q5
  obtain ⟨q6, q7, q8⟩ := q6
  have q9 : (-a) = (a.natAbs : Int) := by omega
  rw [q9] at q6 q7 q8
  have q10 := pabs a n
  refine LJ_nil ?_
  refine QJ_then ?_
  refine CJ_seq ?_
  refine CJ_reg ?_
  refine LJ_y rfl rfl (YJ_fieldOwn rfl fld_110_0 rfl) ?_
  refine LJ_y rfl rfl (YJ_loadL rfl tyi_108 m1 rfl) ?_
  refine LJ_y rfl rfl (YJ_move rfl) ?_
  refine LJ_call0 rfl rfl rfl rfl rfl (mul64_c _ _ (by omega) (by omega) (by omega) (by omega)) (AllIn.sub (by first | exact trivial | exact And.intro (by repeat first | exact .head _ | apply List.Mem.tail) trivial | exact And.intro (by repeat first | exact .head _ | apply List.Mem.tail) (And.intro (by repeat first | exact .head _ | apply List.Mem.tail) trivial))) ?_
  refine LJ_y rfl rfl (YJ_move rfl) ?_
  refine LJ_y rfl rfl (YJ_extract rfl rfl) ?_
  refine LJ_y rfl rfl (YJ_extract rfl rfl) ?_
  refine LJ_y rfl rfl (YJ_assign rfl) ?_
  refine LJ_y rfl rfl (YJ_assign rfl) ?_
  refine LJ_nil ?_
  refine QJ_then ?_
  refine CJ_seq ?_
  refine CJ_reg ?_
  refine LJ_y rfl rfl (YJ_fieldOwn rfl fld_110_1 rfl) ?_
  refine LJ_y rfl rfl (YJ_loadL rfl tyi_108 m1 rfl) ?_
  refine LJ_y rfl rfl (YJ_move rfl) ?_
  refine LJ_call0 rfl rfl rfl rfl rfl (mul64_c _ _ (by omega) (by omega) (by omega) (by omega)) (AllIn.sub (by first | exact trivial | exact And.intro (by repeat first | exact .head _ | apply List.Mem.tail) trivial | exact And.intro (by repeat first | exact .head _ | apply List.Mem.tail) (And.intro (by repeat first | exact .head _ | apply List.Mem.tail) trivial))) ?_
  refine LJ_y rfl rfl (YJ_move rfl) ?_
  refine LJ_y rfl rfl (YJ_extract rfl rfl) ?_
  refine LJ_y rfl rfl (YJ_extract rfl rfl) ?_
  refine LJ_y rfl rfl (YJ_assign rfl) ?_
  refine LJ_y rfl rfl (YJ_assign rfl) ?_
  refine LJ_nil ?_
  refine QJ_then ?_
  refine CJ_seq ?_
  refine CJ_reg ?_
  refine LJ_y rfl rfl (YJ_move rfl) ?_
  refine LJ_y rfl rfl (YJ_move rfl) ?_
  refine LJ_y rfl rfl (YJ_ext rfl rfl (fun w => add64_run _ _ _ (by omega) (by omega) (by omega) (by omega) w)) ?_
  refine LJ_y rfl rfl (YJ_move rfl) ?_
  refine LJ_y rfl rfl (YJ_extract rfl rfl) ?_
  refine LJ_y rfl rfl (YJ_extract rfl rfl) ?_
  refine LJ_y rfl rfl (YJ_assign rfl) ?_
  refine LJ_y rfl rfl (YJ_assign rfl) ?_
  refine LJ_nil ?_
  refine QJ_then ?_
  refine CJ_seq ?_
  refine CJ_reg ?_
  refine LJ_y rfl rfl (YJ_move rfl) ?_
  refine LJ_y rfl rfl (YJ_move rfl) ?_
  refine LJ_y rfl rfl (YJ_build1 (cs := [_, _]) lay_110 rfl rfl rfl) ?_
  refine LJ_alloc (cs := #[_, _]) rfl rfl zer_110 rfl ?_
  intro b3
  refine LJ_store (cs' := #[_, _]) (μ' := [_, _, _]) 0 rfl rfl rfl rfl tyi_110 rfl (Nat.le_of_ble_eq_true rfl) rfl rfl rfl ?_
  refine LJ_nil ?_
  refine QJ_then ?_
  refine CJ_seq ?_
  refine CJ_block ?_
  refine CJ_seq ?_
  refine CJ_reg ?_
  refine LJ_y rfl rfl (YJ_move rfl) ?_
  refine LJ_y rfl rfl (YJ_move rfl) ?_
  refine LJ_y rfl rfl (YJ_bin rfl rfl (iop_addu (by omega))) ?_
  refine LJ_y rfl rfl (YJ_bin rfl rfl rfl) ?_
  refine LJ_y rfl rfl (YJ_assign rfl) ?_
  refine LJ_nil ?_
  refine QJ_then ?_
  refine CJ_cond rfl (fun h48 => ?_) (fun h48 => ?_)
  ·simp only [decide_eq_true_eq] at h48
   refine CJ_seq ?_
   refine CJ_reg ?_
   refine LJ_y rfl rfl (YJ_build1 (cs := [_, _]) lay_110 rfl rfl rfl) ?_
   refine LJ_store (cs' := #[_, _]) (μ' := [_, _, _]) 1 rfl rfl rfl rfl tyi_110 rfl (Nat.le_of_ble_eq_true rfl) rfl rfl rfl ?_
   refine LJ_y rfl rfl (YJ_assign rfl) ?_
   refine LJ_nil ?_
   refine QJ_then ?_
   refine CJ_ret ?_
   refine QJ_in_ret ?_
   refine QJ_then_ret ?_
   refine QJ_fin (.inl rfl) (μ' := []) (μr := _) (φ' := []) (res_cell_tmp (vs := [_, _]) rfl rfl m1 tyi_110 rfl rfl) (List.Perm.refl _) (fun _ h => nomatch h) ?_
   exact RetWo_no (times_big q7 q10 h48)
  ·simp only [decide_eq_false_iff_not] at h48
   refine CJ_seq ?_
   refine CJ_reg ?_
   refine LJ_y rfl rfl (YJ_move rfl) ?_
   refine LJ_y rfl rfl (YJ_assign rfl) ?_
   refine LJ_nil ?_
   refine QJ_then ?_
   refine CJ_cond rfl (fun h54 => ?_) (fun h54 => ?_)
   ·simp only [bne_iff_ne, ne_eq, decide_eq_decide] at h54
    refine CJ_seq ?_
    refine CJ_reg ?_
    refine LJ_y rfl rfl (YJ_loadN (vs := [_, _]) rfl tyi_110 m0 rfl rfl) ?_
    refine LJ_callX rfl rfl rfl rfl rfl (turn_c q6) (AllIn.sub (by first | exact trivial | exact And.intro (by repeat first | exact .head _ | apply List.Mem.tail) trivial | exact And.intro (by repeat first | exact .head _ | apply List.Mem.tail) (And.intro (by repeat first | exact .head _ | apply List.Mem.tail) trivial))) ?_
    rintro ⟨hi2, lo2⟩ ht2
    refine LJ_store (cs' := #[_, _]) (μ' := [_, _, _]) 0 rfl rfl rfl rfl tyi_110 rfl (Nat.le_of_ble_eq_true rfl) rfl rfl rfl ?_
    refine LJ_nil ?_
    refine QJ_then ?_
    refine CJ_seq ?_
    refine CJ_regD mix (by kernel_rfl) (fun _ _ _ _ _ h => h) (selR [0, 2] _) _ (selR_sub _ _) (fun _ h => h) ?_
    refine AJ_y 0 rfl (by kernel_rfl) (by kernel_rfl) rfl rfl (YJ_loadN (vs := [_, _]) rfl tyi_110 m0 rfl rfl) ?_
    refine AJ_y 1 rfl (by kernel_rfl) (by kernel_rfl) rfl rfl (YJ_loadN (vs := [_, _]) rfl tyi_110 m0 rfl rfl) ?_
    refine AJ_call0 2 rfl (by kernel_rfl) rfl rfl rfl rfl rfl (minus_c _ _) (AllIn.sub (by first | exact trivial | exact And.intro (by repeat first | exact .head _ | apply List.Mem.tail) trivial | exact And.intro (by repeat first | exact .head _ | apply List.Mem.tail) (And.intro (by repeat first | exact .head _ | apply List.Mem.tail) trivial))) ?_
    refine AJ_y 3 rfl (by kernel_rfl) (by kernel_rfl) rfl rfl (YJ_move rfl) ?_
    refine AJ_boolC (fun h61 => ?_) (fun h61 => ?_)
    ·simp only [decide_eq_true_eq] at h61
     refine AJ_skip 4 rfl (by kernel_rfl) (by kernel_rfl) rfl rfl ?_
     refine AJ_skip 5 rfl (by kernel_rfl) (by kernel_rfl) rfl rfl ?_
     refine AJ_skip 6 rfl (by kernel_rfl) (by kernel_rfl) rfl rfl ?_
     refine AJ_y 7 rfl (by kernel_rfl) (by kernel_rfl) rfl rfl (YJ_pickT rfl rfl) ?_
     refine AJ_call0 8 rfl (by kernel_rfl) rfl rfl rfl rfl rfl pick_c (AllIn.sub (by first | exact trivial | exact And.intro (by repeat first | exact .head _ | apply List.Mem.tail) trivial | exact And.intro (by repeat first | exact .head _ | apply List.Mem.tail) (And.intro (by repeat first | exact .head _ | apply List.Mem.tail) trivial))) ?_
     refine AJ_y 9 rfl (by kernel_rfl) (by kernel_rfl) rfl rfl (YJ_extract rfl rfl) ?_
     refine AJ_y 10 rfl (by kernel_rfl) (by kernel_rfl) rfl rfl (YJ_extract rfl rfl) ?_
     refine AJ_store (cs' := #[_, _]) (μ' := [_, _, _]) 11 1 rfl (by kernel_rfl) rfl rfl rfl rfl tyi_110 rfl (Nat.le_of_ble_eq_true rfl) rfl rfl rfl (fun _ => AllIn.sub (And.intro m0 (And.intro m2 (trivial)))) ?_
     refine AJ_y 12 rfl (by kernel_rfl) (by kernel_rfl) rfl rfl (YJ_assign rfl) ?_
     refine AJ_done (by kernel_rfl) ?_
     refine QJ_then ?_
     refine CJ_ret ?_
     refine QJ_in_ret ?_
     refine QJ_then_ret ?_
     refine QJ_fin (.inl rfl) (μ' := []) (μr := _) (φ' := []) (res_cell_tmp (vs := [_, _]) rfl rfl m1 tyi_110 rfl rfl) (List.Perm.refl _) (fun _ h => nomatch h) ?_
     exact RetWo_yes' (times_dy q7 q8 q10 h48 (by omega) ht2 (.inl h61) rfl)
    ·simp only [decide_eq_false_iff_not] at h61
     refine AJ_y 4 rfl (by kernel_rfl) (by kernel_rfl) rfl rfl (YJ_loadN (vs := [_, _]) rfl tyi_110 m0 rfl rfl) ?_
     refine AJ_y 5 rfl (by kernel_rfl) (by kernel_rfl) rfl rfl (YJ_build1 (cs := [_, _]) lay_110 rfl rfl rfl) ?_
     refine AJ_y 6 rfl (by kernel_rfl) (by kernel_rfl) rfl rfl (YJ_eqs rfl rfl (fun _ => eqs_eql_110 ..)) ?_
     refine AJ_y 7 rfl (by kernel_rfl) (by kernel_rfl) rfl rfl (YJ_pickF rfl rfl) ?_
     refine AJ_boolC (fun h65 => ?_) (fun h65 => ?_)
     ·simp only [decide_eq_true_eq, Bool.and_eq_true] at h65
      refine AJ_call0 8 rfl (by kernel_rfl) rfl rfl rfl rfl rfl pick_c (AllIn.sub (by first | exact trivial | exact And.intro (by repeat first | exact .head _ | apply List.Mem.tail) trivial | exact And.intro (by repeat first | exact .head _ | apply List.Mem.tail) (And.intro (by repeat first | exact .head _ | apply List.Mem.tail) trivial))) ?_
      refine AJ_y 9 rfl (by kernel_rfl) (by kernel_rfl) rfl rfl (YJ_extract rfl rfl) ?_
      refine AJ_y 10 rfl (by kernel_rfl) (by kernel_rfl) rfl rfl (YJ_extract rfl rfl) ?_
      refine AJ_store (cs' := #[_, _]) (μ' := [_, _, _]) 11 1 rfl (by kernel_rfl) rfl rfl rfl rfl tyi_110 rfl (Nat.le_of_ble_eq_true rfl) rfl rfl rfl (fun _ => AllIn.sub (And.intro m0 (And.intro m2 (trivial)))) ?_
      refine AJ_y 12 rfl (by kernel_rfl) (by kernel_rfl) rfl rfl (YJ_assign rfl) ?_
      refine AJ_done (by kernel_rfl) ?_
      refine QJ_then ?_
      refine CJ_ret ?_
      refine QJ_in_ret ?_
      refine QJ_then_ret ?_
      refine QJ_fin (.inl rfl) (μ' := []) (μr := _) (φ' := []) (res_cell_tmp (vs := [_, _]) rfl rfl m1 tyi_110 rfl rfl) (List.Perm.refl _) (fun _ h => nomatch h) ?_
      exact RetWo_yes' (times_dy q7 q8 q10 h48 (by omega) ht2 (.inr h65) rfl)
     ·simp only [decide_eq_false_iff_not, Bool.and_eq_false_iff] at h65
      refine AJ_call0 8 rfl (by kernel_rfl) rfl rfl rfl rfl rfl pick_c (AllIn.sub (by first | exact trivial | exact And.intro (by repeat first | exact .head _ | apply List.Mem.tail) trivial | exact And.intro (by repeat first | exact .head _ | apply List.Mem.tail) (And.intro (by repeat first | exact .head _ | apply List.Mem.tail) trivial))) ?_
      refine AJ_y 9 rfl (by kernel_rfl) (by kernel_rfl) rfl rfl (YJ_extract rfl rfl) ?_
      refine AJ_y 10 rfl (by kernel_rfl) (by kernel_rfl) rfl rfl (YJ_extract rfl rfl) ?_
      refine AJ_store (cs' := #[_, _]) (μ' := [_, _, _]) 11 1 rfl (by kernel_rfl) rfl rfl rfl rfl tyi_110 rfl (Nat.le_of_ble_eq_true rfl) rfl rfl rfl (fun _ => AllIn.sub (And.intro m0 (And.intro m2 (trivial)))) ?_
      refine AJ_y 12 rfl (by kernel_rfl) (by kernel_rfl) rfl rfl (YJ_assign rfl) ?_
      refine AJ_done (by kernel_rfl) ?_
      refine QJ_then ?_
      refine CJ_ret ?_
      refine QJ_in_ret ?_
      refine QJ_then_ret ?_
      refine QJ_fin (.inl rfl) (μ' := []) (μr := _) (φ' := []) (res_cell_tmp (vs := [_, _]) rfl rfl m1 tyi_110 rfl rfl) (List.Perm.refl _) (fun _ h => nomatch h) ?_
      exact RetWo_no (times_dn q7 q8 q10 h48 (by omega) ht2 ⟨h61, h65⟩)
   ·simp only [bne_eq_false_iff_eq, decide_eq_decide] at h54
    refine CJ_skip ?_
    refine QJ_in_normal ?_
    refine QJ_then ?_
    refine CJ_seq ?_
    refine CJ_regD mix (by kernel_rfl) (fun _ _ _ _ _ h => h) (selR [0, 2] _) _ (selR_sub _ _) (fun _ h => h) ?_
    refine AJ_y 0 rfl (by kernel_rfl) (by kernel_rfl) rfl rfl (YJ_loadN (vs := [_, _]) rfl tyi_110 m0 rfl rfl) ?_
    refine AJ_y 1 rfl (by kernel_rfl) (by kernel_rfl) rfl rfl (YJ_loadN (vs := [_, _]) rfl tyi_110 m0 rfl rfl) ?_
    refine AJ_call0 2 rfl (by kernel_rfl) rfl rfl rfl rfl rfl (minus_c _ _) (AllIn.sub (by first | exact trivial | exact And.intro (by repeat first | exact .head _ | apply List.Mem.tail) trivial | exact And.intro (by repeat first | exact .head _ | apply List.Mem.tail) (And.intro (by repeat first | exact .head _ | apply List.Mem.tail) trivial))) ?_
    refine AJ_y 3 rfl (by kernel_rfl) (by kernel_rfl) rfl rfl (YJ_not rfl) ?_
    refine AJ_boolC (fun h72 => ?_) (fun h72 => ?_)
    ·simp only [decide_eq_false_iff_not, Bool.not_eq_true'] at h72
     refine AJ_call0 4 rfl (by kernel_rfl) rfl rfl rfl rfl rfl pick_c (AllIn.sub (by first | exact trivial | exact And.intro (by repeat first | exact .head _ | apply List.Mem.tail) trivial | exact And.intro (by repeat first | exact .head _ | apply List.Mem.tail) (And.intro (by repeat first | exact .head _ | apply List.Mem.tail) trivial))) ?_
     refine AJ_y 5 rfl (by kernel_rfl) (by kernel_rfl) rfl rfl (YJ_extract rfl rfl) ?_
     refine AJ_y 6 rfl (by kernel_rfl) (by kernel_rfl) rfl rfl (YJ_extract rfl rfl) ?_
     refine AJ_store (cs' := #[_, _]) (μ' := [_, _, _]) 7 1 rfl (by kernel_rfl) rfl rfl rfl rfl tyi_110 rfl (Nat.le_of_ble_eq_true rfl) rfl rfl rfl (fun _ => AllIn.sub (And.intro m0 (And.intro m2 (trivial)))) ?_
     refine AJ_y 8 rfl (by kernel_rfl) (by kernel_rfl) rfl rfl (YJ_assign rfl) ?_
     refine AJ_done (by kernel_rfl) ?_
     refine QJ_then ?_
     refine CJ_ret ?_
     refine QJ_fin (.inl rfl) (μ' := []) (μr := _) (φ' := []) (res_cell_tmp (vs := [_, _]) rfl rfl m1 tyi_110 rfl rfl) (List.Perm.refl _) (fun _ h => nomatch h) ?_
     exact RetWo_yes' (times_uy q7 q8 q10 h48 (by omega) q6 h72)
    ·simp only [decide_eq_true_eq, Bool.not_eq_false'] at h72
     refine AJ_call0 4 rfl (by kernel_rfl) rfl rfl rfl rfl rfl pick_c (AllIn.sub (by first | exact trivial | exact And.intro (by repeat first | exact .head _ | apply List.Mem.tail) trivial | exact And.intro (by repeat first | exact .head _ | apply List.Mem.tail) (And.intro (by repeat first | exact .head _ | apply List.Mem.tail) trivial))) ?_
     refine AJ_y 5 rfl (by kernel_rfl) (by kernel_rfl) rfl rfl (YJ_extract rfl rfl) ?_
     refine AJ_y 6 rfl (by kernel_rfl) (by kernel_rfl) rfl rfl (YJ_extract rfl rfl) ?_
     refine AJ_store (cs' := #[_, _]) (μ' := [_, _, _]) 7 1 rfl (by kernel_rfl) rfl rfl rfl rfl tyi_110 rfl (Nat.le_of_ble_eq_true rfl) rfl rfl rfl (fun _ => AllIn.sub (And.intro m0 (And.intro m2 (trivial)))) ?_
     refine AJ_y 8 rfl (by kernel_rfl) (by kernel_rfl) rfl rfl (YJ_assign rfl) ?_
     refine AJ_done (by kernel_rfl) ?_
     refine QJ_then ?_
     refine CJ_ret ?_
     refine QJ_fin (.inl rfl) (μ' := []) (μr := _) (φ' := []) (res_cell_tmp (vs := [_, _]) rfl rfl m1 tyi_110 rfl rfl) (List.Perm.refl _) (fun _ h => nomatch h) ?_
     exact RetWo_no (times_un q7 q8 q10 h48 (by omega) q6 h72)
 ·simp only [decide_eq_false_iff_not] at h20
  refine CJ_skip ?_
  refine QJ_then ?_
  refine CJ_seq ?_
  refine CJ_reg ?_
  refine LJ_y rfl rfl (YJ_move rfl) ?_
  refine LJ_call0 rfl rfl rfl rfl rfl (abs_c hn) (AllIn.sub (by first | exact trivial | exact And.intro (by repeat first | exact .head _ | apply List.Mem.tail) trivial | exact And.intro (by repeat first | exact .head _ | apply List.Mem.tail) (And.intro (by repeat first | exact .head _ | apply List.Mem.tail) trivial))) ?_
  refine LJ_y rfl rfl (YJ_assign rfl) ?_
  have k0 : (0 : Int) ≤ n.natAbs ∧ (n.natAbs : Int) ≤ 9223372036854775808 := by unfold I64 at hn; omega
  have q := times_core (A := a) (k := n.natAbs) h (by unfold R128 at ra; omega) (by unfold R128 at ra; omega) k0.1 k0.2
  obtain ⟨q1, q2, q3, q4, q5⟩ := q
  have q6 := times_words q1 q2 q3 q4 q5
  obtain ⟨q6, q7, q8⟩ := q6
  have q9 : (a) = (a.natAbs : Int) := by omega
  rw [q9] at q6 q7 q8
  have q10 := pabs a n
  refine LJ_nil ?_
  refine QJ_then ?_
  refine CJ_seq ?_
  refine CJ_reg ?_
  refine LJ_y rfl rfl (YJ_fieldOwn rfl fld_110_0 rfl) ?_
  refine LJ_y rfl rfl (YJ_loadL rfl tyi_108 m1 rfl) ?_
  refine LJ_y rfl rfl (YJ_move rfl) ?_
  refine LJ_call0 rfl rfl rfl rfl rfl (mul64_c _ _ (by omega) (by omega) (by omega) (by omega)) (AllIn.sub (by first | exact trivial | exact And.intro (by repeat first | exact .head _ | apply List.Mem.tail) trivial | exact And.intro (by repeat first | exact .head _ | apply List.Mem.tail) (And.intro (by repeat first | exact .head _ | apply List.Mem.tail) trivial))) ?_
  refine LJ_y rfl rfl (YJ_move rfl) ?_
  refine LJ_y rfl rfl (YJ_extract rfl rfl) ?_
  refine LJ_y rfl rfl (YJ_extract rfl rfl) ?_
  refine LJ_y rfl rfl (YJ_assign rfl) ?_
  refine LJ_y rfl rfl (YJ_assign rfl) ?_
  refine LJ_nil ?_
  refine QJ_then ?_
  refine CJ_seq ?_
  refine CJ_reg ?_
  refine LJ_y rfl rfl (YJ_fieldOwn rfl fld_110_1 rfl) ?_
  refine LJ_y rfl rfl (YJ_loadL rfl tyi_108 m1 rfl) ?_
  refine LJ_y rfl rfl (YJ_move rfl) ?_
  refine LJ_call0 rfl rfl rfl rfl rfl (mul64_c _ _ (by omega) (by omega) (by omega) (by omega)) (AllIn.sub (by first | exact trivial | exact And.intro (by repeat first | exact .head _ | apply List.Mem.tail) trivial | exact And.intro (by repeat first | exact .head _ | apply List.Mem.tail) (And.intro (by repeat first | exact .head _ | apply List.Mem.tail) trivial))) ?_
  refine LJ_y rfl rfl (YJ_move rfl) ?_
  refine LJ_y rfl rfl (YJ_extract rfl rfl) ?_
  refine LJ_y rfl rfl (YJ_extract rfl rfl) ?_
  refine LJ_y rfl rfl (YJ_assign rfl) ?_
  refine LJ_y rfl rfl (YJ_assign rfl) ?_
  refine LJ_nil ?_
  refine QJ_then ?_
  refine CJ_seq ?_
  refine CJ_reg ?_
  refine LJ_y rfl rfl (YJ_move rfl) ?_
  refine LJ_y rfl rfl (YJ_move rfl) ?_
  refine LJ_y rfl rfl (YJ_ext rfl rfl (fun w => add64_run _ _ _ (by omega) (by omega) (by omega) (by omega) w)) ?_
  refine LJ_y rfl rfl (YJ_move rfl) ?_
  refine LJ_y rfl rfl (YJ_extract rfl rfl) ?_
  refine LJ_y rfl rfl (YJ_extract rfl rfl) ?_
  refine LJ_y rfl rfl (YJ_assign rfl) ?_
  refine LJ_y rfl rfl (YJ_assign rfl) ?_
  refine LJ_nil ?_
  refine QJ_then ?_
  refine CJ_seq ?_
  refine CJ_reg ?_
  refine LJ_y rfl rfl (YJ_move rfl) ?_
  refine LJ_y rfl rfl (YJ_move rfl) ?_
  refine LJ_y rfl rfl (YJ_build1 (cs := [_, _]) lay_110 rfl rfl rfl) ?_
  refine LJ_alloc (cs := #[_, _]) rfl rfl zer_110 rfl ?_
  intro b4
  refine LJ_store (cs' := #[_, _]) (μ' := [_, _, _]) 0 rfl rfl rfl rfl tyi_110 rfl (Nat.le_of_ble_eq_true rfl) rfl rfl rfl ?_
  refine LJ_nil ?_
  refine QJ_then ?_
  refine CJ_seq ?_
  refine CJ_block ?_
  refine CJ_seq ?_
  refine CJ_reg ?_
  refine LJ_y rfl rfl (YJ_move rfl) ?_
  refine LJ_y rfl rfl (YJ_move rfl) ?_
  refine LJ_y rfl rfl (YJ_bin rfl rfl (iop_addu (by omega))) ?_
  refine LJ_y rfl rfl (YJ_bin rfl rfl rfl) ?_
  refine LJ_y rfl rfl (YJ_assign rfl) ?_
  refine LJ_nil ?_
  refine QJ_then ?_
  refine CJ_cond rfl (fun h48 => ?_) (fun h48 => ?_)
  ·simp only [decide_eq_true_eq] at h48
   refine CJ_seq ?_
   refine CJ_reg ?_
   refine LJ_y rfl rfl (YJ_build1 (cs := [_, _]) lay_110 rfl rfl rfl) ?_
   refine LJ_store (cs' := #[_, _]) (μ' := [_, _, _]) 1 rfl rfl rfl rfl tyi_110 rfl (Nat.le_of_ble_eq_true rfl) rfl rfl rfl ?_
   refine LJ_y rfl rfl (YJ_assign rfl) ?_
   refine LJ_nil ?_
   refine QJ_then ?_
   refine CJ_ret ?_
   refine QJ_in_ret ?_
   refine QJ_then_ret ?_
   refine QJ_fin (.inl rfl) (μ' := []) (μr := _) (φ' := []) (res_cell_tmp (vs := [_, _]) rfl rfl m1 tyi_110 rfl rfl) (List.Perm.refl _) (fun _ h => nomatch h) ?_
   exact RetWo_no (times_big q7 q10 h48)
  ·simp only [decide_eq_false_iff_not] at h48
   refine CJ_seq ?_
   refine CJ_reg ?_
   refine LJ_y rfl rfl (YJ_move rfl) ?_
   refine LJ_y rfl rfl (YJ_assign rfl) ?_
   refine LJ_nil ?_
   refine QJ_then ?_
   refine CJ_cond rfl (fun h54 => ?_) (fun h54 => ?_)
   ·simp only [bne_iff_ne, ne_eq, decide_eq_decide] at h54
    refine CJ_seq ?_
    refine CJ_reg ?_
    refine LJ_y rfl rfl (YJ_loadN (vs := [_, _]) rfl tyi_110 m0 rfl rfl) ?_
    refine LJ_callX rfl rfl rfl rfl rfl (turn_c q6) (AllIn.sub (by first | exact trivial | exact And.intro (by repeat first | exact .head _ | apply List.Mem.tail) trivial | exact And.intro (by repeat first | exact .head _ | apply List.Mem.tail) (And.intro (by repeat first | exact .head _ | apply List.Mem.tail) trivial))) ?_
    rintro ⟨hi2, lo2⟩ ht2
    refine LJ_store (cs' := #[_, _]) (μ' := [_, _, _]) 0 rfl rfl rfl rfl tyi_110 rfl (Nat.le_of_ble_eq_true rfl) rfl rfl rfl ?_
    refine LJ_nil ?_
    refine QJ_then ?_
    refine CJ_seq ?_
    refine CJ_regD mix (by kernel_rfl) (fun _ _ _ _ _ h => h) (selR [0, 2] _) _ (selR_sub _ _) (fun _ h => h) ?_
    refine AJ_y 0 rfl (by kernel_rfl) (by kernel_rfl) rfl rfl (YJ_loadN (vs := [_, _]) rfl tyi_110 m0 rfl rfl) ?_
    refine AJ_y 1 rfl (by kernel_rfl) (by kernel_rfl) rfl rfl (YJ_loadN (vs := [_, _]) rfl tyi_110 m0 rfl rfl) ?_
    refine AJ_call0 2 rfl (by kernel_rfl) rfl rfl rfl rfl rfl (minus_c _ _) (AllIn.sub (by first | exact trivial | exact And.intro (by repeat first | exact .head _ | apply List.Mem.tail) trivial | exact And.intro (by repeat first | exact .head _ | apply List.Mem.tail) (And.intro (by repeat first | exact .head _ | apply List.Mem.tail) trivial))) ?_
    refine AJ_y 3 rfl (by kernel_rfl) (by kernel_rfl) rfl rfl (YJ_move rfl) ?_
    refine AJ_boolC (fun h61 => ?_) (fun h61 => ?_)
    ·simp only [decide_eq_true_eq] at h61
     refine AJ_skip 4 rfl (by kernel_rfl) (by kernel_rfl) rfl rfl ?_
     refine AJ_skip 5 rfl (by kernel_rfl) (by kernel_rfl) rfl rfl ?_
     refine AJ_skip 6 rfl (by kernel_rfl) (by kernel_rfl) rfl rfl ?_
     refine AJ_y 7 rfl (by kernel_rfl) (by kernel_rfl) rfl rfl (YJ_pickT rfl rfl) ?_
     refine AJ_call0 8 rfl (by kernel_rfl) rfl rfl rfl rfl rfl pick_c (AllIn.sub (by first | exact trivial | exact And.intro (by repeat first | exact .head _ | apply List.Mem.tail) trivial | exact And.intro (by repeat first | exact .head _ | apply List.Mem.tail) (And.intro (by repeat first | exact .head _ | apply List.Mem.tail) trivial))) ?_
     refine AJ_y 9 rfl (by kernel_rfl) (by kernel_rfl) rfl rfl (YJ_extract rfl rfl) ?_
     refine AJ_y 10 rfl (by kernel_rfl) (by kernel_rfl) rfl rfl (YJ_extract rfl rfl) ?_
     refine AJ_store (cs' := #[_, _]) (μ' := [_, _, _]) 11 1 rfl (by kernel_rfl) rfl rfl rfl rfl tyi_110 rfl (Nat.le_of_ble_eq_true rfl) rfl rfl rfl (fun _ => AllIn.sub (And.intro m0 (And.intro m2 (trivial)))) ?_
     refine AJ_y 12 rfl (by kernel_rfl) (by kernel_rfl) rfl rfl (YJ_assign rfl) ?_
     refine AJ_done (by kernel_rfl) ?_
     refine QJ_then ?_
     refine CJ_ret ?_
     refine QJ_in_ret ?_
     refine QJ_then_ret ?_
     refine QJ_fin (.inl rfl) (μ' := []) (μr := _) (φ' := []) (res_cell_tmp (vs := [_, _]) rfl rfl m1 tyi_110 rfl rfl) (List.Perm.refl _) (fun _ h => nomatch h) ?_
     exact RetWo_yes' (times_dy q7 q8 q10 h48 (by omega) ht2 (.inl h61) rfl)
    ·simp only [decide_eq_false_iff_not] at h61
     refine AJ_y 4 rfl (by kernel_rfl) (by kernel_rfl) rfl rfl (YJ_loadN (vs := [_, _]) rfl tyi_110 m0 rfl rfl) ?_
     refine AJ_y 5 rfl (by kernel_rfl) (by kernel_rfl) rfl rfl (YJ_build1 (cs := [_, _]) lay_110 rfl rfl rfl) ?_
     refine AJ_y 6 rfl (by kernel_rfl) (by kernel_rfl) rfl rfl (YJ_eqs rfl rfl (fun _ => eqs_eql_110 ..)) ?_
     refine AJ_y 7 rfl (by kernel_rfl) (by kernel_rfl) rfl rfl (YJ_pickF rfl rfl) ?_
     refine AJ_boolC (fun h65 => ?_) (fun h65 => ?_)
     ·simp only [decide_eq_true_eq, Bool.and_eq_true] at h65
      refine AJ_call0 8 rfl (by kernel_rfl) rfl rfl rfl rfl rfl pick_c (AllIn.sub (by first | exact trivial | exact And.intro (by repeat first | exact .head _ | apply List.Mem.tail) trivial | exact And.intro (by repeat first | exact .head _ | apply List.Mem.tail) (And.intro (by repeat first | exact .head _ | apply List.Mem.tail) trivial))) ?_
      refine AJ_y 9 rfl (by kernel_rfl) (by kernel_rfl) rfl rfl (YJ_extract rfl rfl) ?_
      refine AJ_y 10 rfl (by kernel_rfl) (by kernel_rfl) rfl rfl (YJ_extract rfl rfl) ?_
      refine AJ_store (cs' := #[_, _]) (μ' := [_, _, _]) 11 1 rfl (by kernel_rfl) rfl rfl rfl rfl tyi_110 rfl (Nat.le_of_ble_eq_true rfl) rfl rfl rfl (fun _ => AllIn.sub (And.intro m0 (And.intro m2 (trivial)))) ?_
      refine AJ_y 12 rfl (by kernel_rfl) (by kernel_rfl) rfl rfl (YJ_assign rfl) ?_
      refine AJ_done (by kernel_rfl) ?_
      refine QJ_then ?_
      refine CJ_ret ?_
      refine QJ_in_ret ?_
      refine QJ_then_ret ?_
      refine QJ_fin (.inl rfl) (μ' := []) (μr := _) (φ' := []) (res_cell_tmp (vs := [_, _]) rfl rfl m1 tyi_110 rfl rfl) (List.Perm.refl _) (fun _ h => nomatch h) ?_
      exact RetWo_yes' (times_dy q7 q8 q10 h48 (by omega) ht2 (.inr h65) rfl)
     ·simp only [decide_eq_false_iff_not, Bool.and_eq_false_iff] at h65
      refine AJ_call0 8 rfl (by kernel_rfl) rfl rfl rfl rfl rfl pick_c (AllIn.sub (by first | exact trivial | exact And.intro (by repeat first | exact .head _ | apply List.Mem.tail) trivial | exact And.intro (by repeat first | exact .head _ | apply List.Mem.tail) (And.intro (by repeat first | exact .head _ | apply List.Mem.tail) trivial))) ?_
      refine AJ_y 9 rfl (by kernel_rfl) (by kernel_rfl) rfl rfl (YJ_extract rfl rfl) ?_
      refine AJ_y 10 rfl (by kernel_rfl) (by kernel_rfl) rfl rfl (YJ_extract rfl rfl) ?_
      refine AJ_store (cs' := #[_, _]) (μ' := [_, _, _]) 11 1 rfl (by kernel_rfl) rfl rfl rfl rfl tyi_110 rfl (Nat.le_of_ble_eq_true rfl) rfl rfl rfl (fun _ => AllIn.sub (And.intro m0 (And.intro m2 (trivial)))) ?_
      refine AJ_y 12 rfl (by kernel_rfl) (by kernel_rfl) rfl rfl (YJ_assign rfl) ?_
      refine AJ_done (by kernel_rfl) ?_
      refine QJ_then ?_
      refine CJ_ret ?_
      refine QJ_in_ret ?_
      refine QJ_then_ret ?_
      refine QJ_fin (.inl rfl) (μ' := []) (μr := _) (φ' := []) (res_cell_tmp (vs := [_, _]) rfl rfl m1 tyi_110 rfl rfl) (List.Perm.refl _) (fun _ h => nomatch h) ?_
      exact RetWo_no (times_dn q7 q8 q10 h48 (by omega) ht2 ⟨h61, h65⟩)
   ·simp only [bne_eq_false_iff_eq, decide_eq_decide] at h54
    refine CJ_skip ?_
    refine QJ_in_normal ?_
    refine QJ_then ?_
    refine CJ_seq ?_
    refine CJ_regD mix (by kernel_rfl) (fun _ _ _ _ _ h => h) (selR [0, 2] _) _ (selR_sub _ _) (fun _ h => h) ?_
    refine AJ_y 0 rfl (by kernel_rfl) (by kernel_rfl) rfl rfl (YJ_loadN (vs := [_, _]) rfl tyi_110 m0 rfl rfl) ?_
    refine AJ_y 1 rfl (by kernel_rfl) (by kernel_rfl) rfl rfl (YJ_loadN (vs := [_, _]) rfl tyi_110 m0 rfl rfl) ?_
    refine AJ_call0 2 rfl (by kernel_rfl) rfl rfl rfl rfl rfl (minus_c _ _) (AllIn.sub (by first | exact trivial | exact And.intro (by repeat first | exact .head _ | apply List.Mem.tail) trivial | exact And.intro (by repeat first | exact .head _ | apply List.Mem.tail) (And.intro (by repeat first | exact .head _ | apply List.Mem.tail) trivial))) ?_
    refine AJ_y 3 rfl (by kernel_rfl) (by kernel_rfl) rfl rfl (YJ_not rfl) ?_
    refine AJ_boolC (fun h72 => ?_) (fun h72 => ?_)
    ·simp only [decide_eq_false_iff_not, Bool.not_eq_true'] at h72
     refine AJ_call0 4 rfl (by kernel_rfl) rfl rfl rfl rfl rfl pick_c (AllIn.sub (by first | exact trivial | exact And.intro (by repeat first | exact .head _ | apply List.Mem.tail) trivial | exact And.intro (by repeat first | exact .head _ | apply List.Mem.tail) (And.intro (by repeat first | exact .head _ | apply List.Mem.tail) trivial))) ?_
     refine AJ_y 5 rfl (by kernel_rfl) (by kernel_rfl) rfl rfl (YJ_extract rfl rfl) ?_
     refine AJ_y 6 rfl (by kernel_rfl) (by kernel_rfl) rfl rfl (YJ_extract rfl rfl) ?_
     refine AJ_store (cs' := #[_, _]) (μ' := [_, _, _]) 7 1 rfl (by kernel_rfl) rfl rfl rfl rfl tyi_110 rfl (Nat.le_of_ble_eq_true rfl) rfl rfl rfl (fun _ => AllIn.sub (And.intro m0 (And.intro m2 (trivial)))) ?_
     refine AJ_y 8 rfl (by kernel_rfl) (by kernel_rfl) rfl rfl (YJ_assign rfl) ?_
     refine AJ_done (by kernel_rfl) ?_
     refine QJ_then ?_
     refine CJ_ret ?_
     refine QJ_fin (.inl rfl) (μ' := []) (μr := _) (φ' := []) (res_cell_tmp (vs := [_, _]) rfl rfl m1 tyi_110 rfl rfl) (List.Perm.refl _) (fun _ h => nomatch h) ?_
     exact RetWo_yes' (times_uy q7 q8 q10 h48 (by omega) q6 h72)
    ·simp only [decide_eq_true_eq, Bool.not_eq_false'] at h72
     refine AJ_call0 4 rfl (by kernel_rfl) rfl rfl rfl rfl rfl pick_c (AllIn.sub (by first | exact trivial | exact And.intro (by repeat first | exact .head _ | apply List.Mem.tail) trivial | exact And.intro (by repeat first | exact .head _ | apply List.Mem.tail) (And.intro (by repeat first | exact .head _ | apply List.Mem.tail) trivial))) ?_
     refine AJ_y 5 rfl (by kernel_rfl) (by kernel_rfl) rfl rfl (YJ_extract rfl rfl) ?_
     refine AJ_y 6 rfl (by kernel_rfl) (by kernel_rfl) rfl rfl (YJ_extract rfl rfl) ?_
     refine AJ_store (cs' := #[_, _]) (μ' := [_, _, _]) 7 1 rfl (by kernel_rfl) rfl rfl rfl rfl tyi_110 rfl (Nat.le_of_ble_eq_true rfl) rfl rfl rfl (fun _ => AllIn.sub (And.intro m0 (And.intro m2 (trivial)))) ?_
     refine AJ_y 8 rfl (by kernel_rfl) (by kernel_rfl) rfl rfl (YJ_assign rfl) ?_
     refine AJ_done (by kernel_rfl) ?_
     refine QJ_then ?_
     refine CJ_ret ?_
     refine QJ_fin (.inl rfl) (μ' := []) (μr := _) (φ' := []) (res_cell_tmp (vs := [_, _]) rfl rfl m1 tyi_110 rfl rfl) (List.Perm.refl _) (fun _ h => nomatch h) ?_
     exact RetWo_no (times_un q7 q8 q10 h48 (by omega) q6 h72)
end Go.Proofs.Ytbanlhlggkdanaa
namespace Go.Proofs.Ytbanlhlggkdanaa
open Go.RowKit
theorem ent_108 : Enter Try.prog 108 = true := by kernel_rfl
theorem U_arr_get {w : List Nat} {j k : Nat} (h : j = k) (hk : k < w.length) : (U w).toArray[j]? = some (.int .u64 ((w.getD k 0 : Nat) : Int)) := by
 subst h; rw [List.getElem?_toArray]; exact U_get hk
theorem mul_bound {x y : Nat} (hx : x < BB) (hy : y < BB) : x * y ≤ 340282366920938463426481119284349108225 := by
 have := Nat.mul_le_mul (show x ≤ 18446744073709551615 by unfold BB at hx; omega) (show y ≤ 18446744073709551615 by unfold BB at hy; omega)
 omega
def mw (o p c : Nat) : Nat := (o + (p % BB + c) % BB) % BB
def mc (o p c : Nat) : Nat := p / BB + (p % BB + c) / BB + (o + (p % BB + c) % BB) / BB
theorem mw_mc (o p c : Nat) : mw o p c + BB * mc o p c = o + p + c := by
 unfold mw mc BB; omega
theorem mc_lt {o p c : Nat} (ho : o < BB) (hp : p ≤ 340282366920938463426481119284349108225) (hc : c < BB) : mc o p c < BB := by
 unfold mc BB at *; omega
theorem val_set_any {w : List Nat} {q k x : Nat} (hq : q < k) (hk : k ≤ w.length) : val ((w.set q x).take k) + BB ^ q * w.getD q 0 = val (w.take k) + BB ^ q * x := by
 obtain ⟨d, rfl⟩ : ∃ d, k = q + 1 + d := ⟨k - (q + 1), by omega⟩
 clear hq
 induction d with
 | zero =>
  rw [Nat.add_zero, val_set_take (by omega), val_take_succ (by omega)]
  omega
 | succ d ih =>
  have h1 := ih (by omega)
  rw [show q + 1 + (d + 1) = (q + 1 + d) + 1 by omega, val_take_succ (by simp; omega), val_take_succ (l := w) (by omega)]
  have : (w.set q x).getD (q + 1 + d) 0 = w.getD (q + 1 + d) 0 := by
   rw [List.getD, List.getD, List.getElem?_set_ne (by omega)]
  rw [this]
  omega
theorem mul_step {r w : List Nat} {i j c x V : Nat} (hj : j < r.length) (hk : i + r.length ≤ w.length) (hv : val (w.take (i + r.length)) + BB ^ (i + j) * c = V + BB ^ i * (x * val (r.take j))) :
  val ((w.set (i + j) (mw (w.getD (i + j) 0) (x * r.getD j 0) c)).take (i + r.length)) + BB ^ (i + (j + 1)) * mc (w.getD (i + j) 0) (x * r.getD j 0) c = V + BB ^ i * (x * val (r.take (j + 1))) := by
 have h1 := val_set_any (w := w) (q := i + j) (k := i + r.length) (x := mw (w.getD (i + j) 0) (x * r.getD j 0) c) (by omega) hk
 have h2 := mw_mc (w.getD (i + j) 0) (x * r.getD j 0) c
 have h3 : BB ^ (i + j) * mw (w.getD (i + j) 0) (x * r.getD j 0) c + BB ^ (i + (j + 1)) * mc (w.getD (i + j) 0) (x * r.getD j 0) c = BB ^ (i + j) * w.getD (i + j) 0 + BB ^ (i + j) * (x * r.getD j 0) + BB ^ (i + j) * c := by
  rw [show i + (j + 1) = (i + j) + 1 by omega, Nat.pow_succ, Nat.mul_assoc, ← Nat.mul_add, h2, Nat.mul_add, Nat.mul_add]
 have h4 : BB ^ i * (x * val (r.take (j + 1))) = BB ^ i * (x * val (r.take j)) + BB ^ (i + j) * (x * r.getD j 0) := by
  rw [val_take_succ hj, Nat.mul_add x, Nat.mul_add, Nat.pow_add, Nat.mul_left_comm x (BB ^ j), Nat.mul_assoc]
 omega
theorem mul_row {l r w : List Nat} {i c : Nat} (hi : i < l.length) (hk : i + r.length < w.length) (hv : val (w.take (i + r.length)) + BB ^ (i + r.length) * c = val (l.take i) * val r + BB ^ i * (l.getD i 0 * val (r.take r.length))) :
  val ((w.set (i + r.length) c).take (i + 1 + r.length)) = val (l.take (i + 1)) * val r := by
 rw [show i + 1 + r.length = i + r.length + 1 by omega, val_set_take hk, hv, val_take_succ hi, Nat.add_mul, val_take_all (Nat.le_refl _), Nat.mul_assoc]
set_option maxRecDepth 100000 in
set_option maxHeartbeats 4000000 in
theorem mmul_c {A A' : Option Addr} {n m c c' : Nat} {l r : List Nat} (hn : n = l.length) (hm : m = r.length) (hw : W64 l) (hw' : W64 r) (hl : l.length ≤ 100000) (hl' : r.length ≤ 100000) (hc : l.length ≤ c) (hc' : r.length ≤ c') : Tri Try.prog 108 [.slice A n c, .slice A' m c'] [] [lF A l, lF A' r] (RetM (val l * val r)) := by
 refine Tri_of (N := 79) Try.func108 rfl ent_108 rfl rfl ?_
 intro w0 S0 T0
 show CJ _ _ _ [(0, _), (1, _)] _ _
 subst hn
 subst hm
 refine CJ_seq ?_
 refine CJ_reg ?_
 refine LJ_y rfl rfl (YJ_assign rfl) ?_
 refine LJ_nil ?_
 refine QJ_then ?_
 refine CJ_seq ?_
 refine CJ_reg ?_
 refine LJ_y rfl rfl (YJ_move rfl) ?_
 refine LJ_y rfl rfl (YJ_len rfl ulen_98 rfl) ?_
 refine LJ_y rfl rfl (YJ_move rfl) ?_
 refine LJ_y rfl rfl (YJ_len rfl ulen_98 rfl) ?_
 refine LJ_y rfl rfl (YJ_bin rfl rfl (iop_add (by omega))) ?_
 refine LJ_make rfl rfl elt_98 zer_108 rfl rfl (n := l.length + r.length) (by omega) (by omega) (by omega) ?_
 intro b1
 refine LJ_y rfl rfl (YJ_assign rfl) ?_
 refine LJ_nil ?_
 refine QJ_then ?_
 refine CJ_seq ?_
 refine CJ_seq ?_
 refine CJ_reg ?_
 refine LJ_y rfl rfl (YJ_move rfl) ?_
 refine LJ_y rfl rfl (YJ_len rfl ulen_98 rfl) ?_
 refine LJ_y rfl rfl (YJ_move rfl) ?_
 refine LJ_nil ?_
 refine QJ_then ?_
 refine CJ_block ?_
 rw [made_U]
 refine CJ_loop (F := fun (x : Nat × List Nat) => ⟨[(0, .slice A l.length c), (1, .slice A' r.length c'), (5, .slice (some ⟨b1, 0, none⟩) (l.length + r.length) (l.length + r.length)), (20, .slice A l.length c), (21, .int .i64 (l.length : Int)), (22, .int .i64 (x.1 : Int))], [cellsR b1 (U x.2).toArray 108], [lF A l, lF A' r]⟩) (I := fun (x : Nat × List Nat) => x.1 ≤ l.length ∧ x.2.length = l.length + r.length ∧ W64 x.2 ∧ val (x.2.take (x.1 + r.length)) = val (l.take x.1) * val r) (m := fun (x : Nat × List Nat) => l.length - x.1) (0, List.replicate (l.length + r.length) 0) (μr := []) ⟨Nat.zero_le _, by simp, W64.zeros _, by simp [val, List.take_replicate, val_zeros]⟩ (And.intro rfl (And.intro rfl (And.intro rfl (And.intro rfl (And.intro rfl (And.intro rfl (trivial))))))) (List.Perm.refl _) (fun _ h => h) ?_
 rintro ⟨i, w⟩ ⟨hi, hwl, hww, hv⟩
 try dsimp only at hi
 try dsimp only at hwl
 try dsimp only at hww
 try dsimp only at hv
 show CJ _ _ _ [(0, .slice A l.length c), (1, .slice A' r.length c'), (5, .slice (some ⟨b1, 0, none⟩) (l.length + r.length) (l.length + r.length)), (20, .slice A l.length c), (21, .int .i64 (l.length : Int)), (22, .int .i64 (i : Int))] [cellsR b1 (U w).toArray 108] [lF A l, lF A' r]
 have hx := hw.getD i
 have hx' := hx
 unfold BB at hx
 refine CJ_seq ?_
 refine CJ_reg ?_
 refine LJ_y rfl rfl (YJ_bin rfl rfl rfl) ?_
 refine LJ_nil ?_
 refine QJ_then ?_
 refine CJ_seq ?_
 refine CJ_cond rfl (fun h23 => ?_) (fun h23 => ?_)
 ·simp only [decide_eq_true_eq] at h23
  refine CJ_skip ?_
  refine QJ_then ?_
  refine CJ_seq ?_
  refine CJ_block ?_
  refine CJ_seq ?_
  refine CJ_reg ?_
  refine LJ_y rfl rfl (YJ_move rfl) ?_
  refine LJ_y rfl rfl (YJ_ixFact rfl rfl elt_98 m0 (by decide) (by omega) (by omega) (by omega)) ?_
  refine LJ_y rfl rfl (YJ_loadFact (xs := U l) rfl tyi_108 m0 (U_get' (k := i) (by omega) (by omega))) ?_
  refine LJ_y rfl rfl (YJ_assign rfl) ?_
  refine LJ_y rfl rfl (YJ_assign rfl) ?_
  refine LJ_nil ?_
  refine QJ_then ?_
  refine CJ_seq ?_
  refine CJ_reg ?_
  refine LJ_y rfl rfl (YJ_assign rfl) ?_
  refine LJ_nil ?_
  refine QJ_then ?_
  refine CJ_seq ?_
  refine CJ_seq ?_
  refine CJ_reg ?_
  refine LJ_y rfl rfl (YJ_move rfl) ?_
  refine LJ_y rfl rfl (YJ_len rfl ulen_98 rfl) ?_
  refine LJ_y rfl rfl (YJ_move rfl) ?_
  refine LJ_nil ?_
  refine QJ_then ?_
  refine CJ_block ?_
  refine CJ_loop (F := fun (x : Nat × List Nat × Nat) => ⟨[(0, .slice A l.length c), (1, .slice A' r.length c'), (5, .slice (some ⟨b1, 0, none⟩) (l.length + r.length) (l.length + r.length)), (6, .int .i64 (i : Int)), (7, .int .u64 ((l.getD i 0 : Nat) : Int)), (8, .int .u64 (x.2.2 : Int)), (20, .slice A l.length c), (21, .int .i64 (l.length : Int)), (22, .int .i64 (i : Int)), (27, .slice A' r.length c'), (28, .int .i64 (r.length : Int)), (29, .int .i64 (x.1 : Int))], [cellsR b1 (U x.2.1).toArray 108], [lF A l, lF A' r]⟩) (I := fun (x : Nat × List Nat × Nat) => x.1 ≤ r.length ∧ x.2.1.length = l.length + r.length ∧ W64 x.2.1 ∧ x.2.2 < BB ∧ val (x.2.1.take (i + r.length)) + BB ^ (i + x.1) * x.2.2 = val (l.take i) * val r + BB ^ i * (l.getD i 0 * val (r.take x.1))) (m := fun (x : Nat × List Nat × Nat) => r.length - x.1) (0, w, 0) (μr := []) ⟨Nat.zero_le _, hwl, hww, BB_pos, by simp [val, hv]⟩ (And.intro rfl (And.intro rfl (And.intro rfl (And.intro rfl (And.intro rfl (And.intro rfl (And.intro rfl (And.intro rfl (And.intro rfl (And.intro rfl (And.intro rfl (And.intro rfl (trivial))))))))))))) (List.Perm.refl _) (fun _ h => h) ?_
  rintro ⟨j, w, cy⟩ ⟨hj, hwl, hww, hcy, hv⟩
  try dsimp only at hj
  try dsimp only at hwl
  try dsimp only at hww
  try dsimp only at hcy
  try dsimp only at hv
  show CJ _ _ _ [(0, .slice A l.length c), (1, .slice A' r.length c'), (5, .slice (some ⟨b1, 0, none⟩) (l.length + r.length) (l.length + r.length)), (6, .int .i64 (i : Int)), (7, .int .u64 ((l.getD i 0 : Nat) : Int)), (8, .int .u64 (cy : Int)), (20, .slice A l.length c), (21, .int .i64 (l.length : Int)), (22, .int .i64 (i : Int)), (27, .slice A' r.length c'), (28, .int .i64 (r.length : Int)), (29, .int .i64 (j : Int))] [cellsR b1 (U w).toArray 108] [lF A l, lF A' r]
  have hy := hw'.getD j
  have hy' := hy
  have ho := hww.getD (i + j)
  have ho' := ho
  have hcy' := hcy
  unfold BB at hy ho hcy'
  have hp := mul_bound hx' hy'
  have hmc := mc_lt ho' hp hcy
  have hmc' := hmc
  unfold BB at hmc'
  refine CJ_seq ?_
  refine CJ_reg ?_
  refine LJ_y rfl rfl (YJ_bin rfl rfl rfl) ?_
  refine LJ_nil ?_
  refine QJ_then ?_
  refine CJ_seq ?_
  refine CJ_cond rfl (fun h30 => ?_) (fun h30 => ?_)
  ·simp only [decide_eq_true_eq] at h30
   refine CJ_skip ?_
   refine QJ_then ?_
   refine CJ_seq ?_
   refine CJ_block ?_
   refine CJ_seq ?_
   refine CJ_reg ?_
   refine LJ_y rfl rfl (YJ_move rfl) ?_
   refine LJ_y rfl rfl (YJ_ixFact rfl rfl elt_98 m1 (by decide) (by omega) (by omega) (by omega)) ?_
   refine LJ_y rfl rfl (YJ_loadFact (xs := U r) rfl tyi_108 m1 (U_get' (k := j) (by omega) (by omega))) ?_
   refine LJ_y rfl rfl (YJ_assign rfl) ?_
   refine LJ_y rfl rfl (YJ_assign rfl) ?_
   refine LJ_nil ?_
   refine QJ_then ?_
   refine CJ_seq ?_
   refine CJ_reg ?_
   refine LJ_y rfl rfl (YJ_move rfl) ?_
   refine LJ_y rfl rfl (YJ_move rfl) ?_
   refine LJ_call0 rfl rfl rfl rfl rfl (mul64_c _ _ (by omega) (by omega) (by omega) (by omega)) (AllIn.sub (by first | exact trivial | exact And.intro (by repeat first | exact .head _ | apply List.Mem.tail) trivial | exact And.intro (by repeat first | exact .head _ | apply List.Mem.tail) (And.intro (by repeat first | exact .head _ | apply List.Mem.tail) trivial))) ?_
   refine LJ_y rfl rfl (YJ_move rfl) ?_
   refine LJ_y rfl rfl (YJ_extract rfl rfl) ?_
   refine LJ_val (v := .int .u64 ((((l.getD i 0) * (r.getD j 0)) / BB : Nat) : Int)) (congrArg (Value.int .u64) (by rw [← Int.natCast_mul]; unfold BB; omega)) ?_
   refine LJ_y rfl rfl (YJ_extract rfl rfl) ?_
   refine LJ_val (v := .int .u64 ((((l.getD i 0) * (r.getD j 0)) % BB : Nat) : Int)) (congrArg (Value.int .u64) (by rw [← Int.natCast_mul]; unfold BB; omega)) ?_
   refine LJ_y rfl rfl (YJ_assign rfl) ?_
   refine LJ_y rfl rfl (YJ_assign rfl) ?_
   refine LJ_nil ?_
   refine QJ_then ?_
   refine CJ_seq ?_
   refine CJ_reg ?_
   refine LJ_y rfl rfl (YJ_assign rfl) ?_
   refine LJ_nil ?_
   refine QJ_then ?_
   refine CJ_seq ?_
   refine CJ_reg ?_
   refine LJ_y rfl rfl (YJ_move rfl) ?_
   refine LJ_y rfl rfl (YJ_move rfl) ?_
   refine LJ_y rfl rfl (YJ_ext rfl rfl (fun w => add64_run _ _ _ (by omega) (by omega) (by omega) (by omega) w)) ?_
   refine LJ_y rfl rfl (YJ_move rfl) ?_
   refine LJ_y rfl rfl (YJ_extract rfl rfl) ?_
   refine LJ_val (v := .int .u64 (((((l.getD i 0) * (r.getD j 0)) % BB + cy) % BB : Nat) : Int)) (congrArg (Value.int .u64) (by unfold BB; omega)) ?_
   refine LJ_y rfl rfl (YJ_extract rfl rfl) ?_
   refine LJ_val (v := .int .u64 (((((l.getD i 0) * (r.getD j 0)) % BB + cy) / BB : Nat) : Int)) (congrArg (Value.int .u64) (by unfold BB; omega)) ?_
   refine LJ_y rfl rfl (YJ_assign rfl) ?_
   refine LJ_y rfl rfl (YJ_assign rfl) ?_
   refine LJ_nil ?_
   refine QJ_then ?_
   refine CJ_seq ?_
   refine CJ_reg ?_
   refine LJ_y rfl rfl (YJ_move rfl) ?_
   refine LJ_y rfl rfl (YJ_move rfl) ?_
   refine LJ_y rfl rfl (YJ_bin rfl rfl (iop_addu (by unfold BB; omega))) ?_
   refine LJ_y rfl rfl (YJ_assign rfl) ?_
   refine LJ_nil ?_
   refine QJ_then ?_
   refine CJ_seq ?_
   refine CJ_reg ?_
   refine LJ_y rfl rfl (YJ_move rfl) ?_
   refine LJ_y rfl rfl (YJ_move rfl) ?_
   refine LJ_y rfl rfl (YJ_move rfl) ?_
   refine LJ_y rfl rfl (YJ_bin rfl rfl (iop_add (by omega))) ?_
   refine LJ_y rfl rfl (YJ_move rfl) ?_
   refine LJ_y rfl rfl (YJ_move rfl) ?_
   refine LJ_y rfl rfl (YJ_move rfl) ?_
   refine LJ_y rfl rfl (YJ_bin rfl rfl (iop_add (by omega))) ?_
   refine LJ_y rfl rfl (YJ_ixOwn rfl rfl elt_98 (by omega) (by omega)) ?_
   refine LJ_y rfl rfl (YJ_load1 rfl tyi_108 m0 (U_arr_get (k := i + j) (by omega) (by omega))) ?_
   refine LJ_y rfl rfl (YJ_move rfl) ?_
   refine LJ_y rfl rfl (YJ_ext rfl rfl (fun w => add64_run _ _ _ (by omega) (by omega) (by omega) (by omega) w)) ?_
   refine LJ_y rfl rfl (YJ_move rfl) ?_
   refine LJ_y rfl rfl (YJ_extract rfl rfl) ?_
   refine LJ_val (v := .int .u64 ((mw (w.getD (i + j) 0) ((l.getD i 0) * (r.getD j 0)) cy : Nat) : Int)) (congrArg (Value.int .u64) (by unfold mw BB; omega)) ?_
   refine LJ_y rfl rfl (YJ_extract rfl rfl) ?_
   refine LJ_val (v := .int .u64 ((((w.getD (i + j) 0) + (((l.getD i 0) * (r.getD j 0)) % BB + cy) % BB) / BB : Nat) : Int)) (congrArg (Value.int .u64) (by unfold BB; omega)) ?_
   refine LJ_y rfl rfl (YJ_ixOwn rfl rfl elt_98 (by omega) (by omega)) ?_
   refine LJ_store (cs' := (U (w.set (i + j) (mw (w.getD (i + j) 0) ((l.getD i 0) * (r.getD j 0)) cy))).toArray) (μ' := [_]) 0 rfl rfl rfl rfl tyi_108 rfl (by simp [U]; omega) rfl (U_set (by omega) rfl) rfl ?_
   refine LJ_y rfl rfl (YJ_assign rfl) ?_
   refine LJ_nil ?_
   refine QJ_then ?_
   refine CJ_reg ?_
   refine LJ_y rfl rfl (YJ_move rfl) ?_
   refine LJ_y rfl rfl (YJ_move rfl) ?_
   refine LJ_y rfl rfl (YJ_bin rfl rfl (iop_addu (by unfold mc at hmc'; unfold BB at *; omega))) ?_
   refine LJ_val (v := .int .u64 ((mc (w.getD (i + j) 0) ((l.getD i 0) * (r.getD j 0)) cy : Nat) : Int)) (congrArg (Value.int .u64) (by unfold mc; omega)) ?_
   refine LJ_y rfl rfl (YJ_assign rfl) ?_
   refine LJ_nil ?_
   refine QJ_in_normal ?_
   refine QJ_then ?_
   refine CJ_reg ?_
   refine LJ_y rfl rfl (YJ_bin rfl rfl (iop_add (by omega))) ?_
   refine LJ_y rfl rfl (YJ_move rfl) ?_
   refine LJ_nil ?_
   refine QJ_round (F := fun (x : Nat × List Nat × Nat) => ⟨[(0, .slice A l.length c), (1, .slice A' r.length c'), (5, .slice (some ⟨b1, 0, none⟩) (l.length + r.length) (l.length + r.length)), (6, .int .i64 (i : Int)), (7, .int .u64 ((l.getD i 0 : Nat) : Int)), (8, .int .u64 (x.2.2 : Int)), (20, .slice A l.length c), (21, .int .i64 (l.length : Int)), (22, .int .i64 (i : Int)), (27, .slice A' r.length c'), (28, .int .i64 (r.length : Int)), (29, .int .i64 (x.1 : Int))], [cellsR b1 (U x.2.1).toArray 108], [lF A l, lF A' r]⟩) (I := fun (x : Nat × List Nat × Nat) => x.1 ≤ r.length ∧ x.2.1.length = l.length + r.length ∧ W64 x.2.1 ∧ x.2.2 < BB ∧ val (x.2.1.take (i + r.length)) + BB ^ (i + x.1) * x.2.2 = val (l.take i) * val r + BB ^ i * (l.getD i 0 * val (r.take x.1))) (m := fun (x : Nat × List Nat × Nat) => r.length - x.1) (i := (j, w, cy)) ((j + 1, w.set (i + j) (mw (w.getD (i + j) 0) ((l.getD i 0) * (r.getD j 0)) cy), mc (w.getD (i + j) 0) ((l.getD i 0) * (r.getD j 0)) cy)) (μr := []) ⟨by omega, by simpa using hwl, hww.set _ (Nat.mod_lt _ BB_pos), hmc, mul_step (by omega) (by omega) hv⟩ (by omega) (And.intro rfl (And.intro rfl (And.intro rfl (And.intro rfl (And.intro rfl (And.intro rfl (And.intro rfl (And.intro rfl (And.intro rfl (And.intro rfl (And.intro rfl (And.intro rfl (trivial))))))))))))) (List.Perm.refl _) (fun _ h => h)
  ·simp only [decide_eq_false_iff_not] at h30
   obtain rfl : j = r.length := by omega
   refine CJ_exit ?_
   refine QJ_then_exit ?_
   refine QJ_then_exit ?_
   refine QJ_in_exit ?_
   refine QJ_then ?_
   refine CJ_reg ?_
   refine LJ_y rfl rfl (YJ_move rfl) ?_
   refine LJ_y rfl rfl (YJ_move rfl) ?_
   refine LJ_y rfl rfl (YJ_move rfl) ?_
   refine LJ_y rfl rfl (YJ_len rfl ulen_98 rfl) ?_
   refine LJ_y rfl rfl (YJ_bin rfl rfl (iop_add (by omega))) ?_
   refine LJ_y rfl rfl (YJ_move rfl) ?_
   refine LJ_y rfl rfl (YJ_ixOwn rfl rfl elt_98 (by omega) (by omega)) ?_
   refine LJ_store (cs' := (U (w.set (i + r.length) cy)).toArray) (μ' := [_]) 0 rfl rfl rfl rfl tyi_108 rfl (by simp [U]; omega) rfl (U_set (by omega) rfl) rfl ?_
   refine LJ_nil ?_
   refine QJ_in_normal ?_
   refine QJ_then ?_
   refine CJ_reg ?_
   refine LJ_y rfl rfl (YJ_bin rfl rfl (iop_add (by omega))) ?_
   refine LJ_y rfl rfl (YJ_move rfl) ?_
   refine LJ_nil ?_
   refine QJ_round (F := fun (x : Nat × List Nat) => ⟨[(0, .slice A l.length c), (1, .slice A' r.length c'), (5, .slice (some ⟨b1, 0, none⟩) (l.length + r.length) (l.length + r.length)), (20, .slice A l.length c), (21, .int .i64 (l.length : Int)), (22, .int .i64 (x.1 : Int))], [cellsR b1 (U x.2).toArray 108], [lF A l, lF A' r]⟩) (I := fun (x : Nat × List Nat) => x.1 ≤ l.length ∧ x.2.length = l.length + r.length ∧ W64 x.2 ∧ val (x.2.take (x.1 + r.length)) = val (l.take x.1) * val r) (m := fun (x : Nat × List Nat) => l.length - x.1) (i := (i, w)) ((i + 1, w.set (i + r.length) cy)) (μr := []) ⟨by omega, by simpa using hwl, hww.set _ hcy, mul_row (by omega) (by omega) hv⟩ (by omega) (And.intro rfl (And.intro rfl (And.intro rfl (And.intro rfl (And.intro rfl (And.intro rfl (trivial))))))) (List.Perm.refl _) (fun _ h => h)
 ·simp only [decide_eq_false_iff_not] at h23
  obtain rfl : i = l.length := by omega
  refine CJ_exit ?_
  refine QJ_then_exit ?_
  refine QJ_then_exit ?_
  refine QJ_in_exit ?_
  refine QJ_then ?_
  refine CJ_seq ?_
  refine CJ_reg ?_
  refine LJ_freeze ?_
  refine LJ_addF (r' := lF (some ⟨b1, 0, none⟩) w) (.head _) (fun w' S h => by have := cellsR_slice (n := w.length) (size := 1) (by simp [U]) w' S h; simpa [lF, U] using this) ?_
  refine LJ_y rfl rfl (YJ_move rfl) ?_
  refine LJ_callF rfl rfl rfl rfl rfl (right_c (l := w) hwl.symm hww (by omega) (by omega)) (AllIn.sub (by first | exact trivial | exact And.intro m0 trivial | exact And.intro (by repeat first | exact .head _ | apply List.Mem.tail) (And.intro (by repeat first | exact .head _ | apply List.Mem.tail) trivial))) ?_
  have hcap : (digits (val w)).length ≤ l.length + r.length := by have := digits_len (val_lt hww); omega
  rw [val_take_all (by omega), val_take_all (Nat.le_refl _)] at hv
  rw [hv] at hcap ⊢
  simp only [List.cons_append, List.nil_append]
  refine LJ_y rfl rfl (YJ_assign rfl) ?_
  refine LJ_nil ?_
  refine QJ_then ?_
  refine CJ_ret ?_
  refine QJ_fin (.inl rfl) (μ' := []) (μr := _) (φ' := [dF (some ⟨b1, 0, none⟩) (val l * val r)]) (res_tmp rfl rfl) (List.Perm.refl _) (AllIn.sub (And.intro (.head _) trivial)) ?_
  exact ⟨(_, _), hcap, rfl, rfl, rfl⟩
end Go.Proofs.Ytbanlhlggkdanaa
namespace Go.Proofs.Ytbanlhlggkdanaa
open Go.RowKit
theorem ent_77 : Enter Try.prog 77 = true := by kernel_rfl
theorem zer_100 : zer Try.prog 100 = some (.agg #[.bool false, .slice none 0 0]) := by kernel_rfl
theorem lay_100 : lay1 Try.prog 100 = some [.bool false, .slice none 0 0] := by kernel_rfl
theorem tyi_100 : tyi Try.prog 100 = some (true, 2) := by kernel_rfl
theorem ent_82 : Enter Try.prog 82 = true := by kernel_rfl
theorem fld_100_1 : fld Try.prog 100 1 = some 1 := by kernel_rfl
theorem tyi_98 : tyi Try.prog 98 = some (false, 1) := by kernel_rfl
theorem fld_100_0 : fld Try.prog 100 0 = some 0 := by kernel_rfl
theorem tyi_4 : tyi Try.prog 4 = some (false, 1) := by kernel_rfl
def dl (z : Int) : Nat := (digits z.natAbs).length
def numV (z : Int) (A : Option Addr) (c : Nat) : Value := .agg #[.bool (decide (z < 0)), .slice A (dl z) c]
abbrev numF (z : Int) (A : Option Addr) : Res := dF A z.natAbs
abbrev RetN (z : Int) : Value → List Res → List Res → Prop := RetX (fun x : Option Addr × Nat => dl z ≤ x.2) (fun x => numV z x.1 x.2) (fun _ => []) (fun x => [numF z x.1])
theorem numV_mk {z : Int} {s : Bool} {v : Nat} {A : Option Addr} {c : Nat} (h1 : s = decide (z < 0)) (h2 : z.natAbs = v) : Value.agg #[.bool s, .slice A (digits v).length c] = numV z A c := by
 subst h1; subst h2; rfl
theorem RetN_mk {z : Int} {s : Bool} {v : Nat} {A : Option Addr} {c : Nat} (h1 : s = decide (z < 0)) (h2 : z.natAbs = v) (h3 : (digits v).length ≤ c) : RetN z (.agg #[.bool s, .slice A (digits v).length c]) [] [dF A v] := by
 refine ⟨(A, c), ?_, numV_mk h1 h2, rfl, ?_⟩
 ·subst h2; exact h3
 ·subst h2; rfl
def sg (s : Bool) (v : Nat) : Int := if s then -(v : Int) else v
theorem sg_abs (s : Bool) (v : Nat) : (sg s v).natAbs = v := by unfold sg; split <;> omega
theorem RetN.conv {z z' : Int} (h : z = z') {v : Value} {μ φ : List Res} (hr : RetN z v μ φ) : RetN z' v μ φ := by subst h; exact hr
theorem dl_le {z : Int} {k : Nat} (h : z.natAbs < BB ^ k) : dl z ≤ k := digits_len h
theorem val_abs (z : Int) : val (digits z.natAbs) = z.natAbs := val_digits _
set_option maxRecDepth 100000 in
set_option maxHeartbeats 1000000 in
theorem nmake_c {s : Bool} {A : Option Addr} {n c : Nat} {l : List Nat} (hn : n = l.length) (hw : W64 l) (hl : l.length ≤ 100000) (hc : l.length ≤ c) : Tri Try.prog 77 [.bool s, .slice A n c] [] [lF A l] (RetN (sg s (val l))) := by
 refine Tri_of (N := 15) Try.func77 rfl ent_77 rfl rfl ?_
 intro w0 S0 T0
 show CJ _ _ _ [(0, _), (1, _)] _ _
 refine CJ_seq ?_
 refine CJ_reg ?_
 refine LJ_alloc (cs := #[_, _]) rfl rfl zer_100 rfl ?_
 intro b1
 refine LJ_nil ?_
 refine QJ_then ?_
 refine CJ_seq ?_
 refine CJ_reg ?_
 refine LJ_y rfl rfl (YJ_move rfl) ?_
 refine LJ_newF (r' := lF none []) (sliceR_nil 1 none) ?_
 refine LJ_callX rfl rfl rfl rfl rfl (show Tri _ _ _ _ _ (RetM (val l)) from madd_c (r := []) hn rfl hw W64.nil hl (by simp) hc (by simp)) (AllIn.sub (by first | exact trivial | exact And.intro (by repeat first | exact .head _ | apply List.Mem.tail) trivial | exact And.intro m1 (And.intro m0 trivial))) ?_
 rintro ⟨A', c'⟩ hcap
 dsimp only at hcap
 dsimp only [List.cons_append, List.nil_append]
 refine LJ_y rfl rfl (YJ_assign rfl) ?_
 refine LJ_nil ?_
 refine QJ_then ?_
 refine CJ_seq ?_
 refine CJ_reg ?_
 refine LJ_y rfl rfl (YJ_move rfl) ?_
 refine LJ_y rfl rfl (YJ_move rfl) ?_
 refine LJ_boolC (fun h8 => ?_) (fun h8 => ?_)
 ·skip
  subst h8
  refine LJ_y rfl rfl (YJ_move rfl) ?_
  refine LJ_y rfl rfl (YJ_len rfl ulen_98 rfl) ?_
  refine LJ_y rfl rfl (YJ_bin rfl rfl rfl) ?_
  refine LJ_y rfl rfl (YJ_pickT rfl rfl) ?_
  refine LJ_y rfl rfl (YJ_move rfl) ?_
  refine LJ_y rfl rfl (YJ_build1 (cs := [_, _]) lay_100 rfl rfl rfl) ?_
  refine LJ_store (cs' := #[_, _]) (μ' := [_]) 0 rfl rfl rfl rfl tyi_100 rfl (Nat.le_of_ble_eq_true rfl) rfl rfl rfl ?_
  refine LJ_nil ?_
  refine QJ_then ?_
  refine CJ_ret ?_
  refine QJ_fin (.inl rfl) (μ' := []) (μr := _) (φ' := [dF A' (val l)]) (res_cell (vs := [_, _]) rfl rfl m0 tyi_100 rfl) (List.Perm.refl _) (AllIn.sub (And.intro (.head _) trivial)) ?_
  exact RetN_mk (by unfold sg; have := digits_len_zero (v := val l); rw [if_pos rfl, decide_eq_decide]; omega) (sg_abs _ _) hcap
 ·skip
  subst h8
  refine LJ_skip rfl rfl ?_
  refine LJ_skip rfl rfl ?_
  refine LJ_skip rfl rfl ?_
  refine LJ_y rfl rfl (YJ_pickF rfl rfl) ?_
  refine LJ_y rfl rfl (YJ_move rfl) ?_
  refine LJ_y rfl rfl (YJ_build1 (cs := [_, _]) lay_100 rfl rfl rfl) ?_
  refine LJ_store (cs' := #[_, _]) (μ' := [_]) 0 rfl rfl rfl rfl tyi_100 rfl (Nat.le_of_ble_eq_true rfl) rfl rfl rfl ?_
  refine LJ_nil ?_
  refine QJ_then ?_
  refine CJ_ret ?_
  refine QJ_fin (.inl rfl) (μ' := []) (μr := _) (φ' := [dF A' (val l)]) (res_cell (vs := [_, _]) rfl rfl m0 tyi_100 rfl) (List.Perm.refl _) (AllIn.sub (And.intro (.head _) trivial)) ?_
  exact RetN_mk (by unfold sg; rw [if_neg (by simp)]; have h0 : ¬ ((val l : Nat) : Int) < 0 := (by omega); rw [decide_eq_false h0]) (sg_abs _ _) hcap
set_option maxRecDepth 100000 in
set_option maxHeartbeats 1000000 in
theorem nsign_c {z : Int} {A : Option Addr} {c : Nat} (hz : dl z ≤ 100000) (hc : dl z ≤ c) : Tri Try.prog 82 [numV z A c] [] [numF z A] (Ret0 (.int .i64 (sgn z))) := by
 refine Tri_of (N := 11) Try.func82 rfl ent_82 rfl rfl ?_
 intro w0 S0 T0
 show CJ _ _ _ [(0, _)] _ _
 unfold dl at hz hc
 refine CJ_seq ?_
 refine CJ_reg ?_
 refine LJ_box (cs := #[_, _]) rfl rfl rfl rfl ?_
 intro b1
 refine LJ_y rfl rfl (YJ_assign rfl) ?_
 refine LJ_nil ?_
 refine QJ_then ?_
 refine CJ_seq ?_
 refine CJ_block ?_
 refine CJ_seq ?_
 refine CJ_reg ?_
 refine LJ_y rfl rfl (YJ_fieldOwn rfl fld_100_1 rfl) ?_
 refine LJ_y rfl rfl (YJ_loadL rfl tyi_98 m0 rfl) ?_
 refine LJ_callX rfl rfl rfl rfl rfl (mlen_c (l := digits z.natAbs) rfl (digits_w _) (by omega) (by omega)) (AllIn.sub (by first | exact trivial | exact And.intro m0 trivial | exact And.intro (by repeat first | exact .head _ | apply List.Mem.tail) (And.intro (by repeat first | exact .head _ | apply List.Mem.tail) trivial))) ?_
 rintro r ⟨hr1, hr2⟩
 dsimp only [List.nil_append]
 rw [val_digits] at hr1
 refine LJ_y rfl rfl (YJ_bin rfl rfl rfl) ?_
 refine LJ_y rfl rfl (YJ_assign rfl) ?_
 refine LJ_nil ?_
 refine QJ_then ?_
 refine CJ_cond rfl (fun h3 => ?_) (fun h3 => ?_)
 ·simp only [decide_eq_true_eq] at h3
  refine CJ_seq ?_
  refine CJ_reg ?_
  refine LJ_y rfl rfl (YJ_assign rfl) ?_
  refine LJ_nil ?_
  refine QJ_then ?_
  refine CJ_ret ?_
  refine QJ_in_ret ?_
  refine QJ_then_ret ?_
  refine QJ_fin (.inl rfl) (μ' := []) (μr := _) (φ' := []) (res_tmp rfl rfl) (List.Perm.refl _) (fun _ h => nomatch h) ?_
  exact ⟨congrArg (Value.int .i64) (by have := val_abs z; first | exact (sgn_lt (by omega)).symm | exact (sgn_eq (by omega)).symm | exact (sgn_gt (by omega)).symm), rfl, rfl⟩
 ·simp only [decide_eq_false_iff_not] at h3
  refine CJ_seq ?_
  refine CJ_reg ?_
  refine LJ_y rfl rfl (YJ_fieldOwn rfl fld_100_0 rfl) ?_
  refine LJ_y rfl rfl (YJ_loadL rfl tyi_4 m0 rfl) ?_
  refine LJ_y rfl rfl (YJ_assign rfl) ?_
  refine LJ_nil ?_
  refine QJ_then ?_
  refine CJ_cond rfl (fun h8 => ?_) (fun h8 => ?_)
  ·simp only [decide_eq_true_eq] at h8
   refine CJ_seq ?_
   refine CJ_reg ?_
   refine LJ_y rfl rfl (YJ_assign rfl) ?_
   refine LJ_nil ?_
   refine QJ_then ?_
   refine CJ_ret ?_
   refine QJ_in_ret ?_
   refine QJ_then_ret ?_
   refine QJ_fin (.inl rfl) (μ' := []) (μr := _) (φ' := []) (res_tmp rfl rfl) (List.Perm.refl _) (fun _ h => nomatch h) ?_
   exact ⟨congrArg (Value.int .i64) (by have := val_abs z; first | exact (sgn_lt (by omega)).symm | exact (sgn_eq (by omega)).symm | exact (sgn_gt (by omega)).symm), rfl, rfl⟩
  ·simp only [decide_eq_false_iff_not] at h8
   refine CJ_skip ?_
   refine QJ_in_normal ?_
   refine QJ_then ?_
   refine CJ_seq ?_
   refine CJ_reg ?_
   refine LJ_y rfl rfl (YJ_assign rfl) ?_
   refine LJ_nil ?_
   refine QJ_then ?_
   refine CJ_ret ?_
   refine QJ_fin (.inl rfl) (μ' := []) (μr := _) (φ' := []) (res_tmp rfl rfl) (List.Perm.refl _) (fun _ h => nomatch h) ?_
   exact ⟨congrArg (Value.int .i64) (by have := val_abs z; first | exact (sgn_lt (by omega)).symm | exact (sgn_eq (by omega)).symm | exact (sgn_gt (by omega)).symm), rfl, rfl⟩
end Go.Proofs.Ytbanlhlggkdanaa
namespace Go.Proofs.Ytbanlhlggkdanaa
open Go.RowKit
theorem ent_46 : Enter Try.prog 46 = true := by kernel_rfl
theorem ent_94 : Enter Try.prog 94 = true := by kernel_rfl
theorem sg_add {a b : Int} (h : decide (a < 0) = decide (b < 0)) : sg (decide (a < 0)) (a.natAbs + b.natAbs) = a + b := by
 unfold sg
 rw [decide_eq_decide] at h
 by_cases h1 : a < 0
 ·rw [decide_eq_true h1, if_pos rfl]; omega
 ·rw [decide_eq_false h1, if_neg (by simp)]; omega
theorem sg_sub {a b : Int} (h : ¬ (decide (a < 0) = decide (b < 0))) (h1 : b.natAbs ≤ a.natAbs) : sg (decide (a < 0)) (a.natAbs - b.natAbs) = a + b := by
 unfold sg
 rw [decide_eq_decide] at h
 by_cases h1 : a < 0
 ·rw [decide_eq_true h1, if_pos rfl]; omega
 ·rw [decide_eq_false h1, if_neg (by simp)]; omega
theorem sgn_ge_zero {n : Int} : 0 ≤ sgn n ↔ 0 ≤ n := by have := sgn_cases n; omega
theorem dlv {v k : Nat} (h : (digits v).length ≤ k) : v < BB ^ k := by
 have := val_lt (digits_w v)
 rw [val_digits] at this
 exact Nat.lt_of_lt_of_le this (Nat.pow_le_pow_right BB_pos h)
theorem add_len {u v k l : Nat} (hu : (digits u).length ≤ k) (hv : (digits v).length ≤ l) : (digits (u + v)).length ≤ k + l + 1 := by
 apply digits_len
 have h1 := dlv hu
 have h2 := dlv hv
 have h3 : BB ^ k ≤ BB ^ (k + l) := Nat.pow_le_pow_right BB_pos (by omega)
 have h4 : BB ^ l ≤ BB ^ (k + l) := Nat.pow_le_pow_right BB_pos (by omega)
 have h5 : BB ^ (k + l + 1) = BB ^ (k + l) * BB := Nat.pow_succ _ _
 have h6 : BB ^ (k + l) * 2 ≤ BB ^ (k + l) * BB := Nat.mul_le_mul_left _ (by decide)
 omega
theorem sub_len {u v k : Nat} (hu : (digits u).length ≤ k) : (digits (u - v)).length ≤ k := digits_len (Nat.lt_of_le_of_lt (Nat.sub_le _ _) (dlv hu))
theorem mul_len {u v k l : Nat} (hu : (digits u).length ≤ k) (hv : (digits v).length ≤ l) : (digits (u * v)).length ≤ k + l := by
 apply digits_len
 have h1 := dlv hu
 have h2 := dlv hv
 rw [Nat.pow_add]
 exact Nat.mul_lt_mul'' h1 h2
theorem dl_add {a b : Int} {k l : Nat} (ha : dl a ≤ k) (hb : dl b ≤ l) : dl (a + b) ≤ k + l + 1 := by
 have h := add_len ha hb
 unfold dl
 exact digits_len (Nat.lt_of_le_of_lt (by omega) (dlv h))
theorem dl_mul {a b : Int} {k l : Nat} (ha : dl a ≤ k) (hb : dl b ≤ l) : dl (a * b) ≤ k + l := by
 unfold dl; rw [Int.natAbs_mul]; exact mul_len ha hb
theorem sg_mul {a b : Int} : sg (decide (a < 0) != decide (b < 0)) (a.natAbs * b.natAbs) = a * b := by
 have h := pabs a b
 unfold sg
 rw [Int.natCast_mul, h]
 by_cases h1 : a < 0 <;> by_cases h2 : b < 0 <;> simp [h1, h2]
set_option maxRecDepth 100000 in
set_option maxHeartbeats 1000000 in
theorem nadd_c {a b : Int} {A B : Option Addr} {c d : Nat} (ha : dl a ≤ 40000) (hb : dl b ≤ 40000) (hc : dl a ≤ c) (hd : dl b ≤ d) : Tri Try.prog 46 [numV a A c, numV b B d] [] [numF a A, numF b B] (RetN (a + b)) := by
 refine Tri_of (N := 40) Try.func46 rfl ent_46 rfl rfl ?_
 intro w0 S0 T0
 show CJ _ _ _ [(0, _), (1, _)] _ _
 unfold dl at ha hb hc hd
 refine CJ_seq ?_
 refine CJ_reg ?_
 refine LJ_box (cs := #[_, _]) rfl rfl rfl rfl ?_
 intro b1
 refine LJ_box (cs := #[_, _]) rfl rfl rfl rfl ?_
 intro b2
 refine LJ_alloc (cs := #[_, _]) rfl rfl zer_100 rfl ?_
 intro b3
 refine LJ_nil ?_
 refine QJ_then ?_
 refine CJ_seq ?_
 refine CJ_seq ?_
 refine CJ_reg ?_
 refine LJ_y rfl rfl (YJ_fieldOwn rfl fld_100_0 rfl) ?_
 refine LJ_y rfl rfl (YJ_loadL rfl tyi_4 m2 rfl) ?_
 refine LJ_y rfl rfl (YJ_fieldOwn rfl fld_100_0 rfl) ?_
 refine LJ_y rfl rfl (YJ_loadL rfl tyi_4 m1 rfl) ?_
 refine LJ_y rfl rfl (YJ_eqb rfl rfl ubool_4) ?_
 refine LJ_nil ?_
 refine QJ_then ?_
 refine CJ_cond rfl (fun h9 => ?_) (fun h9 => ?_)
 ·try simp only [beq_iff_eq, beq_eq_false_iff_ne, ne_eq, decide_eq_true_eq, decide_eq_false_iff_not] at h9
  refine CJ_seq ?_
  refine CJ_regD mix (by kernel_rfl) (fun _ _ _ _ _ h => h) (selR [1, 2] _) _ (selR_sub _ _) (fun _ h => h) ?_
  refine AJ_y 0 rfl (by kernel_rfl) (by kernel_rfl) rfl rfl (YJ_fieldOwn rfl fld_100_0 rfl) ?_
  refine AJ_y 1 rfl (by kernel_rfl) (by kernel_rfl) rfl rfl (YJ_loadL rfl tyi_4 m1 rfl) ?_
  refine AJ_y 2 rfl (by kernel_rfl) (by kernel_rfl) rfl rfl (YJ_fieldOwn rfl fld_100_1 rfl) ?_
  refine AJ_y 3 rfl (by kernel_rfl) (by kernel_rfl) rfl rfl (YJ_loadL rfl tyi_98 m1 rfl) ?_
  refine AJ_y 4 rfl (by kernel_rfl) (by kernel_rfl) rfl rfl (YJ_fieldOwn rfl fld_100_1 rfl) ?_
  refine AJ_y 5 rfl (by kernel_rfl) (by kernel_rfl) rfl rfl (YJ_loadL rfl tyi_98 m0 rfl) ?_
  refine AJ_callX 6 rfl (by kernel_rfl) rfl rfl rfl rfl rfl (madd_c (l := digits a.natAbs) (r := digits b.natAbs) rfl rfl (digits_w _) (digits_w _) (by omega) (by omega) hc hd) (AllIn.sub (And.intro m0 (And.intro m1 trivial))) ?_
  rintro ⟨A', c'⟩ hcap
  dsimp only at hcap
  dsimp only [List.cons_append, List.nil_append]
  rw [val_digits, val_digits] at hcap ⊢
  refine AJ_callX 7 rfl (by kernel_rfl) rfl rfl rfl rfl rfl (nmake_c (l := digits (a.natAbs + b.natAbs)) rfl (digits_w _) (by have := add_len ha hb; omega) hcap) (AllIn.sub (by first | exact trivial | exact And.intro m0 trivial | exact And.intro (by repeat first | exact .head _ | apply List.Mem.tail) (And.intro (by repeat first | exact .head _ | apply List.Mem.tail) trivial))) ?_
  rw [val_digits, sg_add h9]
  rintro ⟨A1, c1⟩ hcap1
  dsimp only at hcap1
  dsimp only [List.cons_append, List.nil_append]
  refine AJ_store (cs' := #[_, _]) (μ' := [_, _, _]) 8 0 rfl (by kernel_rfl) rfl rfl rfl rfl tyi_100 rfl (Nat.le_of_ble_eq_true rfl) rfl rfl rfl (fun _ => AllIn.sub (And.intro m1 (And.intro m2 (trivial)))) ?_
  refine AJ_done (by kernel_rfl) ?_
  refine QJ_then ?_
  refine CJ_ret ?_
  refine QJ_then_ret ?_
  refine QJ_fin (.inl rfl) (μ' := []) (μr := _) (φ' := [dF A1 _]) (res_cell (vs := [_, _]) rfl rfl m0 tyi_100 rfl) (List.Perm.refl _) (AllIn.sub (And.intro (.head _) trivial)) ?_
  exact ⟨(A1, c1), hcap1, rfl, rfl, rfl⟩
 ·try simp only [beq_iff_eq, beq_eq_false_iff_ne, ne_eq, decide_eq_true_eq, decide_eq_false_iff_not] at h9
  refine CJ_skip ?_
  refine QJ_then ?_
  refine CJ_seq ?_
  refine CJ_seq ?_
  refine CJ_reg ?_
  refine LJ_y rfl rfl (YJ_fieldOwn rfl fld_100_1 rfl) ?_
  refine LJ_y rfl rfl (YJ_loadL rfl tyi_98 m2 rfl) ?_
  refine LJ_y rfl rfl (YJ_fieldOwn rfl fld_100_1 rfl) ?_
  refine LJ_y rfl rfl (YJ_loadL rfl tyi_98 m1 rfl) ?_
  refine LJ_call0 rfl rfl rfl rfl rfl (mcmp_c (l := digits a.natAbs) (r := digits b.natAbs) rfl rfl (digits_w _) (digits_w _) (by omega) (by omega) hc hd) (AllIn.sub (And.intro m0 (And.intro m1 trivial))) ?_
  rw [val_digits, val_digits]
  refine LJ_y rfl rfl (YJ_bin rfl rfl rfl) ?_
  refine LJ_nil ?_
  refine QJ_then ?_
  refine CJ_cond rfl (fun h23 => ?_) (fun h23 => ?_)
  ·try simp only [beq_iff_eq, beq_eq_false_iff_ne, ne_eq, decide_eq_true_eq, decide_eq_false_iff_not] at h23
   have h23 := sgn_ge_zero.1 h23
   refine CJ_seq ?_
   refine CJ_regD mix (by kernel_rfl) (fun _ _ _ _ _ h => h) (selR [1, 2] _) _ (selR_sub _ _) (fun _ h => h) ?_
   refine AJ_y 0 rfl (by kernel_rfl) (by kernel_rfl) rfl rfl (YJ_fieldOwn rfl fld_100_0 rfl) ?_
   refine AJ_y 1 rfl (by kernel_rfl) (by kernel_rfl) rfl rfl (YJ_loadL rfl tyi_4 m1 rfl) ?_
   refine AJ_y 2 rfl (by kernel_rfl) (by kernel_rfl) rfl rfl (YJ_fieldOwn rfl fld_100_1 rfl) ?_
   refine AJ_y 3 rfl (by kernel_rfl) (by kernel_rfl) rfl rfl (YJ_loadL rfl tyi_98 m1 rfl) ?_
   refine AJ_y 4 rfl (by kernel_rfl) (by kernel_rfl) rfl rfl (YJ_fieldOwn rfl fld_100_1 rfl) ?_
   refine AJ_y 5 rfl (by kernel_rfl) (by kernel_rfl) rfl rfl (YJ_loadL rfl tyi_98 m0 rfl) ?_
   refine AJ_callX 6 rfl (by kernel_rfl) rfl rfl rfl rfl rfl (msub_c (l := digits a.natAbs) (r := digits b.natAbs) rfl rfl (digits_w _) (digits_w _) (by omega) (by omega) hc hd) (AllIn.sub (And.intro m0 (And.intro m1 trivial))) ?_
   rintro ⟨A', c'⟩ hcap
   dsimp only at hcap
   dsimp only [List.cons_append, List.nil_append]
   rw [val_digits, val_digits] at hcap ⊢
   refine AJ_callX 7 rfl (by kernel_rfl) rfl rfl rfl rfl rfl (nmake_c (l := digits (a.natAbs - b.natAbs)) rfl (digits_w _) (by have := sub_len (v := b.natAbs) ha; omega) hcap) (AllIn.sub (by first | exact trivial | exact And.intro m0 trivial | exact And.intro (by repeat first | exact .head _ | apply List.Mem.tail) (And.intro (by repeat first | exact .head _ | apply List.Mem.tail) trivial))) ?_
   rw [val_digits, sg_sub h9 (by omega)]
   rintro ⟨A1, c1⟩ hcap1
   dsimp only at hcap1
   dsimp only [List.cons_append, List.nil_append]
   refine AJ_store (cs' := #[_, _]) (μ' := [_, _, _]) 8 0 rfl (by kernel_rfl) rfl rfl rfl rfl tyi_100 rfl (Nat.le_of_ble_eq_true rfl) rfl rfl rfl (fun _ => AllIn.sub (And.intro m1 (And.intro m2 (trivial)))) ?_
   refine AJ_done (by kernel_rfl) ?_
   refine QJ_then ?_
   refine CJ_ret ?_
   refine QJ_then_ret ?_
   refine QJ_fin (.inl rfl) (μ' := []) (μr := _) (φ' := [dF A1 _]) (res_cell (vs := [_, _]) rfl rfl m0 tyi_100 rfl) (List.Perm.refl _) (AllIn.sub (And.intro (.head _) trivial)) ?_
   exact ⟨(A1, c1), hcap1, rfl, rfl, rfl⟩
  ·try simp only [beq_iff_eq, beq_eq_false_iff_ne, ne_eq, decide_eq_true_eq, decide_eq_false_iff_not] at h23
   have h23 := mt sgn_ge_zero.2 h23
   refine CJ_skip ?_
   refine QJ_then ?_
   refine CJ_seq ?_
   refine CJ_regD mix (by kernel_rfl) (fun _ _ _ _ _ h => h) (selR [1, 2] _) _ (selR_sub _ _) (fun _ h => h) ?_
   refine AJ_y 0 rfl (by kernel_rfl) (by kernel_rfl) rfl rfl (YJ_fieldOwn rfl fld_100_0 rfl) ?_
   refine AJ_y 1 rfl (by kernel_rfl) (by kernel_rfl) rfl rfl (YJ_loadL rfl tyi_4 m0 rfl) ?_
   refine AJ_y 2 rfl (by kernel_rfl) (by kernel_rfl) rfl rfl (YJ_fieldOwn rfl fld_100_1 rfl) ?_
   refine AJ_y 3 rfl (by kernel_rfl) (by kernel_rfl) rfl rfl (YJ_loadL rfl tyi_98 m0 rfl) ?_
   refine AJ_y 4 rfl (by kernel_rfl) (by kernel_rfl) rfl rfl (YJ_fieldOwn rfl fld_100_1 rfl) ?_
   refine AJ_y 5 rfl (by kernel_rfl) (by kernel_rfl) rfl rfl (YJ_loadL rfl tyi_98 m1 rfl) ?_
   refine AJ_callX 6 rfl (by kernel_rfl) rfl rfl rfl rfl rfl (msub_c (l := digits b.natAbs) (r := digits a.natAbs) rfl rfl (digits_w _) (digits_w _) (by omega) (by omega) hd hc) (AllIn.sub (And.intro m1 (And.intro m0 trivial))) ?_
   rintro ⟨A', c'⟩ hcap
   dsimp only at hcap
   dsimp only [List.cons_append, List.nil_append]
   rw [val_digits, val_digits] at hcap ⊢
   refine AJ_callX 7 rfl (by kernel_rfl) rfl rfl rfl rfl rfl (nmake_c (l := digits (b.natAbs - a.natAbs)) rfl (digits_w _) (by have := sub_len (v := a.natAbs) hb; omega) hcap) (AllIn.sub (by first | exact trivial | exact And.intro m0 trivial | exact And.intro (by repeat first | exact .head _ | apply List.Mem.tail) (And.intro (by repeat first | exact .head _ | apply List.Mem.tail) trivial))) ?_
   rw [val_digits, sg_sub (Ne.symm h9) (by omega)]
   rintro ⟨A1, c1⟩ hcap1
   dsimp only at hcap1
   dsimp only [List.cons_append, List.nil_append]
   refine AJ_store (cs' := #[_, _]) (μ' := [_, _, _]) 8 0 rfl (by kernel_rfl) rfl rfl rfl rfl tyi_100 rfl (Nat.le_of_ble_eq_true rfl) rfl rfl rfl (fun _ => AllIn.sub (And.intro m1 (And.intro m2 (trivial)))) ?_
   refine AJ_done (by kernel_rfl) ?_
   refine QJ_then ?_
   refine CJ_ret ?_
   refine QJ_fin (.inl rfl) (μ' := []) (μr := _) (φ' := [dF A1 _]) (res_cell (vs := [_, _]) rfl rfl m0 tyi_100 rfl) (List.Perm.refl _) (AllIn.sub (And.intro (.head _) trivial)) ?_
   exact RetN.conv (Int.add_comm b a) ⟨(A1, c1), hcap1, rfl, rfl, rfl⟩
set_option maxRecDepth 100000 in
set_option maxHeartbeats 1000000 in
theorem nmul_c {a b : Int} {A B : Option Addr} {c d : Nat} (ha : dl a ≤ 40000) (hb : dl b ≤ 40000) (hc : dl a ≤ c) (hd : dl b ≤ d) : Tri Try.prog 94 [numV a A c, numV b B d] [] [numF a A, numF b B] (RetN (a * b)) := by
 refine Tri_of (N := 16) Try.func94 rfl ent_94 rfl rfl ?_
 intro w0 S0 T0
 show CJ _ _ _ [(0, _), (1, _)] _ _
 unfold dl at ha hb hc hd
 refine CJ_seq ?_
 refine CJ_reg ?_
 refine LJ_box (cs := #[_, _]) rfl rfl rfl rfl ?_
 intro b1
 refine LJ_box (cs := #[_, _]) rfl rfl rfl rfl ?_
 intro b2
 refine LJ_alloc (cs := #[_, _]) rfl rfl zer_100 rfl ?_
 intro b3
 refine LJ_nil ?_
 refine QJ_then ?_
 refine CJ_seq ?_
 refine CJ_regD mix (by kernel_rfl) (fun _ _ _ _ _ h => h) (selR [1, 2] _) _ (selR_sub _ _) (fun _ h => h) ?_
 refine AJ_y 0 rfl (by kernel_rfl) (by kernel_rfl) rfl rfl (YJ_fieldOwn rfl fld_100_0 rfl) ?_
 refine AJ_y 1 rfl (by kernel_rfl) (by kernel_rfl) rfl rfl (YJ_loadL rfl tyi_4 m1 rfl) ?_
 refine AJ_y 2 rfl (by kernel_rfl) (by kernel_rfl) rfl rfl (YJ_fieldOwn rfl fld_100_0 rfl) ?_
 refine AJ_y 3 rfl (by kernel_rfl) (by kernel_rfl) rfl rfl (YJ_loadL rfl tyi_4 m0 rfl) ?_
 refine AJ_y 4 rfl (by kernel_rfl) (by kernel_rfl) rfl rfl (YJ_neb rfl rfl ubool_4) ?_
 refine AJ_y 5 rfl (by kernel_rfl) (by kernel_rfl) rfl rfl (YJ_fieldOwn rfl fld_100_1 rfl) ?_
 refine AJ_y 6 rfl (by kernel_rfl) (by kernel_rfl) rfl rfl (YJ_loadL rfl tyi_98 m1 rfl) ?_
 refine AJ_y 7 rfl (by kernel_rfl) (by kernel_rfl) rfl rfl (YJ_fieldOwn rfl fld_100_1 rfl) ?_
 refine AJ_y 8 rfl (by kernel_rfl) (by kernel_rfl) rfl rfl (YJ_loadL rfl tyi_98 m0 rfl) ?_
 refine AJ_callX 9 rfl (by kernel_rfl) rfl rfl rfl rfl rfl (mmul_c (l := digits a.natAbs) (r := digits b.natAbs) rfl rfl (digits_w _) (digits_w _) (by omega) (by omega) hc hd) (AllIn.sub (And.intro m0 (And.intro m1 trivial))) ?_
 rintro ⟨A', c'⟩ hcap
 dsimp only at hcap
 dsimp only [List.cons_append, List.nil_append]
 rw [val_digits, val_digits] at hcap ⊢
 refine AJ_callX 10 rfl (by kernel_rfl) rfl rfl rfl rfl rfl (nmake_c (l := digits (a.natAbs * b.natAbs)) rfl (digits_w _) (by have := mul_len ha hb; omega) hcap) (AllIn.sub (by first | exact trivial | exact And.intro m0 trivial | exact And.intro (by repeat first | exact .head _ | apply List.Mem.tail) (And.intro (by repeat first | exact .head _ | apply List.Mem.tail) trivial))) ?_
 rw [val_digits, sg_mul]
 rintro ⟨A1, c1⟩ hcap1
 dsimp only at hcap1
 dsimp only [List.cons_append, List.nil_append]
 refine AJ_store (cs' := #[_, _]) (μ' := [_, _, _]) 11 0 rfl (by kernel_rfl) rfl rfl rfl rfl tyi_100 rfl (Nat.le_of_ble_eq_true rfl) rfl rfl rfl (fun _ => AllIn.sub (And.intro m1 (And.intro m2 (trivial)))) ?_
 refine AJ_done (by kernel_rfl) ?_
 refine QJ_then ?_
 refine CJ_ret ?_
 refine QJ_fin (.inl rfl) (μ' := []) (μr := _) (φ' := [dF A1 _]) (res_cell (vs := [_, _]) rfl rfl m0 tyi_100 rfl) (List.Perm.refl _) (AllIn.sub (And.intro (.head _) trivial)) ?_
 exact ⟨(A1, c1), hcap1, rfl, rfl, rfl⟩
end Go.Proofs.Ytbanlhlggkdanaa
namespace Go.Proofs.Ytbanlhlggkdanaa
open Go.RowKit
theorem ent_81 : Enter Try.prog 81 = true := by kernel_rfl
theorem nat_of {x : Int} (h : 0 ≤ x) : ∃ n : Nat, x = (n : Int) := ⟨x.toNat, by omega⟩
theorem isW_val {hi lo : Nat} {a : Int} (h : IsW (hi : Int) (lo : Int) a) (r : R128 a) (h0 : ¬ a < 0) : sg false (val [lo, hi]) = a := by
 unfold IsW at h; unfold R128 at r
 simp only [sg, val, Bool.false_eq_true, if_false]
 unfold BB
 omega
theorem isW_val_neg {hi lo : Nat} {a : Int} (h : IsW (hi : Int) (lo : Int) (-a)) (r : R128 a) (h0 : a < 0) : sg true (val [lo, hi]) = a := by
 unfold IsW at h; unfold R128 at r
 simp only [sg, val, if_true]
 unfold BB
 omega
theorem isW_W64 {hi lo : Nat} {a : Int} (h : IsW (hi : Int) (lo : Int) a) : W64 [lo, hi] := by
 have := h.b
 exact W64.append (l := [lo]) (W64.one (by unfold BB; omega)) (W64.one (by unfold BB; omega))
theorem dl_r128 {a : Int} (r : R128 a) : dl a ≤ 2 := dl_le (by unfold R128 at r; unfold BB; omega)
set_option maxRecDepth 100000 in
set_option maxHeartbeats 1000000 in
theorem wnum_c {hi lo a : Int} (h : IsW hi lo a) (r : R128 a) : Tri Try.prog 81 [.agg #[.int .u64 hi, .int .u64 lo]] [] [] (RetN a) := by
 refine Tri_of (N := 20) Try.func81 rfl ent_81 rfl rfl ?_
 intro w0 S0 T0
 show CJ _ _ _ [(0, _)] _ _
 obtain ⟨hi, rfl⟩ := nat_of h.b.1
 obtain ⟨lo, rfl⟩ := nat_of h.b.2.2.1
 have hneg := h.neg r
 refine CJ_seq ?_
 refine CJ_reg ?_
 refine LJ_box (cs := #[_, _]) rfl rfl rfl rfl ?_
 intro b1
 refine LJ_alloc (cs := #[_, _]) rfl rfl zer_100 rfl ?_
 intro b2
 refine LJ_nil ?_
 refine QJ_then ?_
 refine CJ_seq ?_
 refine CJ_seq ?_
 refine CJ_reg ?_
 refine LJ_y rfl rfl (YJ_loadN (vs := [_, _]) rfl tyi_110 m1 rfl rfl) ?_
 refine LJ_call0 rfl rfl rfl rfl rfl (minus_c _ _) (AllIn.sub (by first | exact trivial | exact And.intro (by repeat first | exact .head _ | apply List.Mem.tail) trivial | exact And.intro (by repeat first | exact .head _ | apply List.Mem.tail) (And.intro (by repeat first | exact .head _ | apply List.Mem.tail) trivial))) ?_
 refine LJ_nil ?_
 refine QJ_then ?_
 refine CJ_cond rfl (fun h5 => ?_) (fun h5 => ?_)
 ·simp only [decide_eq_true_eq] at h5
  refine CJ_seq ?_
  refine CJ_reg ?_
  refine LJ_y rfl rfl (YJ_loadN (vs := [_, _]) rfl tyi_110 m1 rfl rfl) ?_
  refine LJ_callX rfl rfl rfl rfl rfl (turn_c h) (AllIn.sub (by first | exact trivial | exact And.intro (by repeat first | exact .head _ | apply List.Mem.tail) trivial | exact And.intro (by repeat first | exact .head _ | apply List.Mem.tail) (And.intro (by repeat first | exact .head _ | apply List.Mem.tail) trivial))) ?_
  rintro ⟨hi2, lo2⟩ h2
  dsimp only at h2
  obtain ⟨hi2, rfl⟩ := nat_of h2.b.1
  obtain ⟨lo2, rfl⟩ := nat_of h2.b.2.2.1
  dsimp only [wvP, List.cons_append, List.nil_append]
  refine LJ_alloc (cs := #[_, _]) rfl rfl zer_110 rfl ?_
  intro b3
  refine LJ_store (cs' := #[_, _]) (μ' := [_, _, _]) 0 rfl rfl rfl rfl tyi_110 rfl (Nat.le_of_ble_eq_true rfl) rfl rfl rfl ?_
  refine LJ_nil ?_
  refine QJ_then ?_
  refine CJ_seq ?_
  refine CJ_reg ?_
  refine LJ_y rfl rfl (YJ_fieldOwn rfl fld_110_1 rfl) ?_
  refine LJ_y rfl rfl (YJ_loadL rfl tyi_108 m0 rfl) ?_
  refine LJ_y rfl rfl (YJ_fieldOwn rfl fld_110_0 rfl) ?_
  refine LJ_y rfl rfl (YJ_loadL rfl tyi_108 m0 rfl) ?_
  refine LJ_buildSlice (cs := [_, _]) rfl rfl elt_98 zer_108 rfl (by decide) (pvs := [(_, _), (_, _)]) rfl rfl rfl ?_
  intro b4
  refine LJ_freeze ?_
  refine LJ_addF (r' := lF (some ⟨b4, 0, none⟩) [lo2, hi2]) (.head _) (fun w S h => cellsR_slice (n := 2) rfl w S h) ?_
  refine LJ_callX rfl rfl rfl rfl rfl (nmake_c (l := [lo2, hi2]) rfl (isW_W64 h2) (by simp) (by simp)) (AllIn.sub (by first | exact trivial | exact And.intro m0 trivial | exact And.intro (by repeat first | exact .head _ | apply List.Mem.tail) (And.intro (by repeat first | exact .head _ | apply List.Mem.tail) trivial))) ?_
  rw [isW_val_neg h2 r (hneg.1 h5)]
  rintro ⟨A1, c1⟩ hcap1
  dsimp only at hcap1
  dsimp only [List.cons_append, List.nil_append]
  refine LJ_store (cs' := #[_, _]) (μ' := [_, _, _]) 1 rfl rfl rfl rfl tyi_100 rfl (Nat.le_of_ble_eq_true rfl) rfl rfl rfl ?_
  refine LJ_nil ?_
  refine QJ_then ?_
  refine CJ_ret ?_
  refine QJ_then_ret ?_
  refine QJ_fin (.inl rfl) (μ' := []) (μr := _) (φ' := [numF a A1]) (res_cell (vs := [_, _]) rfl rfl m1 tyi_100 rfl) (List.Perm.refl _) (AllIn.sub (And.intro (.head _) trivial)) ?_
  exact ⟨(A1, c1), hcap1, rfl, rfl, rfl⟩
 ·simp only [decide_eq_false_iff_not] at h5
  refine CJ_skip ?_
  refine QJ_then ?_
  refine CJ_seq ?_
  refine CJ_reg ?_
  refine LJ_y rfl rfl (YJ_fieldOwn rfl fld_110_1 rfl) ?_
  refine LJ_y rfl rfl (YJ_loadL rfl tyi_108 m1 rfl) ?_
  refine LJ_y rfl rfl (YJ_fieldOwn rfl fld_110_0 rfl) ?_
  refine LJ_y rfl rfl (YJ_loadL rfl tyi_108 m1 rfl) ?_
  refine LJ_buildSlice (cs := [_, _]) rfl rfl elt_98 zer_108 rfl (by decide) (pvs := [(_, _), (_, _)]) rfl rfl rfl ?_
  intro b5
  refine LJ_freeze ?_
  refine LJ_addF (r' := lF (some ⟨b5, 0, none⟩) [lo, hi]) (.head _) (fun w S h => cellsR_slice (n := 2) rfl w S h) ?_
  refine LJ_callX rfl rfl rfl rfl rfl (nmake_c (l := [lo, hi]) rfl (isW_W64 h) (by simp) (by simp)) (AllIn.sub (by first | exact trivial | exact And.intro m0 trivial | exact And.intro (by repeat first | exact .head _ | apply List.Mem.tail) (And.intro (by repeat first | exact .head _ | apply List.Mem.tail) trivial))) ?_
  rw [isW_val h r (fun q => h5 (hneg.2 q))]
  rintro ⟨A1, c1⟩ hcap1
  dsimp only at hcap1
  dsimp only [List.cons_append, List.nil_append]
  refine LJ_store (cs' := #[_, _]) (μ' := [_, _]) 0 rfl rfl rfl rfl tyi_100 rfl (Nat.le_of_ble_eq_true rfl) rfl rfl rfl ?_
  refine LJ_nil ?_
  refine QJ_then ?_
  refine CJ_ret ?_
  refine QJ_fin (.inl rfl) (μ' := []) (μr := _) (φ' := [numF a A1]) (res_cell (vs := [_, _]) rfl rfl m0 tyi_100 rfl) (List.Perm.refl _) (AllIn.sub (And.intro (.head _) trivial)) ?_
  exact ⟨(A1, c1), hcap1, rfl, rfl, rfl⟩
theorem dl_big {a : Int} (h : R128 a) : dl a ≤ 40000 := Nat.le_trans (dl_r128 h) (by decide)
end Go.Proofs.Ytbanlhlggkdanaa
namespace Go.Proofs.Ytbanlhlggkdanaa
open Go.RowKit
theorem I64.r {a : Int} (h : I64 a) : R128 a := by unfold I64 at h; unfold R128; omega
end Go.Proofs.Ytbanlhlggkdanaa
namespace Go.Proofs.Ytbanlhlggkdanaa
open Go.RowKit
theorem tyi_3 : tyi Try.prog 3 = some (false, 1) := by kernel_rfl
theorem all_step {p : Nat → Prop} {i : Nat} (h : ∀ j, j < i → p j) (hi : p i) : ∀ j, j < i + 1 → p j := fun j hj => by
 rcases Nat.lt_or_eq_of_le (Nat.le_of_lt_succ hj) with h' | h'
 ·exact h j h'
 ·subst h'; exact hi
def T62 (x : Int) : Prop := -4611686018427387904 ≤ x ∧ x ≤ 4611686018427387904
theorem T62.i {x : Int} (h : T62 x) : I64 x := by unfold T62 at h; unfold I64; omega
theorem mul_T62 {x y : Int} (h : T62 x) (h' : T62 y) : -21267647932558653966460912964485513216 ≤ x * y ∧ x * y ≤ 21267647932558653966460912964485513216 := by
 have key : (x * y).natAbs ≤ 21267647932558653966460912964485513216 := by
  rw [Int.natAbs_mul]
  have h1 : x.natAbs ≤ 4611686018427387904 := by unfold T62 at h; omega
  have h2 : y.natAbs ≤ 4611686018427387904 := by unfold T62 at h'; omega
  exact Nat.le_trans (Nat.mul_le_mul h1 h2) (by decide)
 omega
theorem det_r {a b c d : Int} (ha : T62 a) (hb : T62 b) (hc : T62 c) (hd : T62 d) : R128 (det a b c d) := by
 have h1 := mul_T62 ha hd
 have h2 := mul_T62 hb hc
 unfold R128 det; omega
theorem mul_r62 {x y : Int} (h : T62 x) (h' : T62 y) : R128 (x * y) := by
 have := mul_T62 h h'
 unfold R128; omega
end Go.Proofs.Ytbanlhlggkdanaa
namespace Go.Proofs.Ytbanlhlggkdanaa
open Go.RowKit
theorem ent_17 : Enter Try.prog 17 = true := by kernel_rfl
theorem zer_23 : zer Try.prog 23 = some (.agg #[.int .i64 0, .int .i64 0]) := by kernel_rfl
theorem fld_23_0 : fld Try.prog 23 0 = some 0 := by kernel_rfl
theorem fld_23_1 : fld Try.prog 23 1 = some 1 := by kernel_rfl
theorem lay_23 : lay1 Try.prog 23 = some [.int .i64 0, .int .i64 0] := by kernel_rfl
theorem tyi_23 : tyi Try.prog 23 = some (true, 2) := by kernel_rfl
theorem ent_52 : Enter Try.prog 52 = true := by kernel_rfl
theorem ent_20 : Enter Try.prog 20 = true := by kernel_rfl
def Tm (x : Int) : Prop := -2147483648 ≤ x ∧ x ≤ 2147483648
def P2 (x y : Int) : Prop := Tm x ∧ Tm y
def tm (x : Int) : Int := min (max x (-2147483648)) 2147483648
theorem tm_ok (x : Int) : Tm (tm x) := by unfold Tm tm; omega
theorem tm_p (x y : Int) : P2 (tm x) (tm y) := ⟨tm_ok x, tm_ok y⟩
abbrev ptv (x y : Int) : Value := .agg #[.int .i64 x, .int .i64 y]
def A2 (a1 a2 e1 e2 c1 c2 : Int) : Int := det (e1 - a1) (e2 - a2) (c1 - a1) (c2 - a2)
theorem Tm.d {x y : Int} (h : Tm x) (h' : Tm y) : T62 (x - y) := by unfold Tm at h h'; unfold T62; omega
theorem Tm.i {x y : Int} (h : Tm x) (h' : Tm y) : -9223372036854775808 ≤ x - y ∧ x - y ≤ 9223372036854775807 := by unfold Tm at h h'; omega
theorem A2_r {a1 a2 e1 e2 c1 c2 : Int} (ha : P2 a1 a2) (hb : P2 e1 e2) (hc : P2 c1 c2) : R128 (A2 a1 a2 e1 e2 c1 c2) := det_r (hb.1.d ha.1) (hb.2.d ha.2) (hc.1.d ha.1) (hc.2.d ha.2)
theorem RetW.of {n m : Int} (h : n = m) {v : Value} {μ φ : List Res} (hr : RetW n v μ φ) : RetW m v μ φ := by subst h; exact hr
set_option maxRecDepth 100000 in
set_option maxHeartbeats 1000000 in
theorem tame_c {x y : Int} : Tri Try.prog 17 [ptv x y] [] [] (Ret0 (ptv (tm x) (tm y))) := by
 refine Tri_of (N := 12) Try.func17 rfl ent_17 rfl rfl ?_
 intro w0 S0 T0
 show CJ _ _ _ [(0, _)] _ _
 refine CJ_seq ?_
 refine CJ_reg ?_
 refine LJ_box (cs := #[_, _]) rfl rfl rfl rfl ?_
 intro b1
 refine LJ_alloc (cs := #[_, _]) rfl rfl zer_23 rfl ?_
 intro b2
 refine LJ_nil ?_
 refine QJ_then ?_
 refine CJ_seq ?_
 refine CJ_reg ?_
 refine LJ_y rfl rfl (YJ_fieldOwn rfl fld_23_0 rfl) ?_
 refine LJ_y rfl rfl (YJ_loadL rfl tyi_3 m1 rfl) ?_
 refine LJ_y rfl rfl (YJ_max2 rfl rfl) ?_
 refine LJ_y rfl rfl (YJ_min2 rfl rfl) ?_
 refine LJ_y rfl rfl (YJ_fieldOwn rfl fld_23_1 rfl) ?_
 refine LJ_y rfl rfl (YJ_loadL rfl tyi_3 m1 rfl) ?_
 refine LJ_y rfl rfl (YJ_max2 rfl rfl) ?_
 refine LJ_y rfl rfl (YJ_min2 rfl rfl) ?_
 refine LJ_y rfl rfl (YJ_build1 (cs := [_, _]) lay_23 rfl rfl rfl) ?_
 refine LJ_store (cs' := #[_, _]) (μ' := [_, _]) 0 rfl rfl rfl rfl tyi_23 rfl (Nat.le_of_ble_eq_true rfl) rfl rfl rfl ?_
 refine LJ_nil ?_
 refine QJ_then ?_
 refine CJ_ret ?_
 refine QJ_fin (.inl rfl) (μ' := []) (μr := _) (φ' := []) (res_cell (vs := [_, _]) rfl rfl m0 tyi_23 rfl) (List.Perm.refl _) (fun _ h => nomatch h) ?_
 exact ⟨rfl, rfl, rfl⟩
set_option maxRecDepth 100000 in
set_option maxHeartbeats 1000000 in
theorem parea2_c {a1 a2 e1 e2 c1 c2 : Int} (ha : P2 a1 a2) (hb : P2 e1 e2) (hc : P2 c1 c2) : Tri Try.prog 52 [ptv a1 a2, ptv e1 e2, ptv c1 c2] [] [] (RetW (A2 a1 a2 e1 e2 c1 c2)) := by
 refine Tri_of (N := 28) Try.func52 rfl ent_52 rfl rfl ?_
 intro w0 S0 T0
 show CJ _ _ _ [(0, _), (1, _), (2, _)] _ _
 refine CJ_seq ?_
 refine CJ_reg ?_
 refine LJ_box (cs := #[_, _]) rfl rfl rfl rfl ?_
 intro b1
 refine LJ_box (cs := #[_, _]) rfl rfl rfl rfl ?_
 intro b2
 refine LJ_box (cs := #[_, _]) rfl rfl rfl rfl ?_
 intro b3
 refine LJ_alloc (cs := #[_, _]) rfl rfl zer_110 rfl ?_
 intro b4
 refine LJ_nil ?_
 refine QJ_then ?_
 refine CJ_seq ?_
 refine CJ_reg ?_
 refine LJ_y rfl rfl (YJ_fieldOwn rfl fld_23_0 rfl) ?_
 refine LJ_y rfl rfl (YJ_loadL rfl tyi_3 m2 rfl) ?_
 refine LJ_y rfl rfl (YJ_fieldOwn rfl fld_23_0 rfl) ?_
 refine LJ_y rfl rfl (YJ_loadL rfl tyi_3 m3 rfl) ?_
 refine LJ_y rfl rfl (YJ_bin rfl rfl (iop_sub (hb.1.i ha.1))) ?_
 refine LJ_y rfl rfl (YJ_fieldOwn rfl fld_23_1 rfl) ?_
 refine LJ_y rfl rfl (YJ_loadL rfl tyi_3 m2 rfl) ?_
 refine LJ_y rfl rfl (YJ_fieldOwn rfl fld_23_1 rfl) ?_
 refine LJ_y rfl rfl (YJ_loadL rfl tyi_3 m3 rfl) ?_
 refine LJ_y rfl rfl (YJ_bin rfl rfl (iop_sub (hb.2.i ha.2))) ?_
 refine LJ_y rfl rfl (YJ_fieldOwn rfl fld_23_0 rfl) ?_
 refine LJ_y rfl rfl (YJ_loadL rfl tyi_3 m1 rfl) ?_
 refine LJ_y rfl rfl (YJ_fieldOwn rfl fld_23_0 rfl) ?_
 refine LJ_y rfl rfl (YJ_loadL rfl tyi_3 m3 rfl) ?_
 refine LJ_y rfl rfl (YJ_bin rfl rfl (iop_sub (hc.1.i ha.1))) ?_
 refine LJ_y rfl rfl (YJ_fieldOwn rfl fld_23_1 rfl) ?_
 refine LJ_y rfl rfl (YJ_loadL rfl tyi_3 m1 rfl) ?_
 refine LJ_y rfl rfl (YJ_fieldOwn rfl fld_23_1 rfl) ?_
 refine LJ_y rfl rfl (YJ_loadL rfl tyi_3 m3 rfl) ?_
 refine LJ_y rfl rfl (YJ_bin rfl rfl (iop_sub (hc.2.i ha.2))) ?_
 refine LJ_callX rfl rfl rfl rfl rfl (wdet_c (hb.1.d ha.1).i (hb.2.d ha.2).i (hc.1.d ha.1).i (hc.2.d ha.2).i) (AllIn.sub (by first | exact trivial | exact And.intro (by repeat first | exact .head _ | apply List.Mem.tail) trivial | exact And.intro (by repeat first | exact .head _ | apply List.Mem.tail) (And.intro (by repeat first | exact .head _ | apply List.Mem.tail) trivial))) ?_
 rw [if_pos (show R128 (det (e1 - a1) (e2 - a2) (c1 - a1) (c2 - a2)) from A2_r ha hb hc)]
 rintro ⟨hih, loh⟩ h
 dsimp only [wvP, List.cons_append, List.nil_append] at h ⊢
 refine LJ_store (cs' := #[_, _]) (μ' := [_, _, _, _]) 0 rfl rfl rfl rfl tyi_110 rfl (Nat.le_of_ble_eq_true rfl) rfl rfl rfl ?_
 refine LJ_nil ?_
 refine QJ_then ?_
 refine CJ_ret ?_
 refine QJ_fin (.inl rfl) (μ' := []) (μr := _) (φ' := []) (res_cell (vs := [_, _]) rfl rfl m0 tyi_110 rfl) (List.Perm.refl _) (fun _ h => nomatch h) ?_
 exact ⟨(hih, loh), h, rfl, rfl, rfl⟩
set_option maxRecDepth 100000 in
set_option maxHeartbeats 1000000 in
theorem orient_c {a1 a2 e1 e2 c1 c2 : Int} (ha : P2 a1 a2) (hb : P2 e1 e2) (hc : P2 c1 c2) : Tri Try.prog 20 [ptv a1 a2, ptv e1 e2, ptv c1 c2] [] [] (Ret0 (.int .i64 (sgn (A2 a1 a2 e1 e2 c1 c2)))) := by
 refine Tri_of (N := 12) Try.func20 rfl ent_20 rfl rfl ?_
 intro w0 S0 T0
 show CJ _ _ _ [(0, _), (1, _), (2, _)] _ _
 refine CJ_seq ?_
 refine CJ_reg ?_
 refine LJ_box (cs := #[_, _]) rfl rfl rfl rfl ?_
 intro b1
 refine LJ_box (cs := #[_, _]) rfl rfl rfl rfl ?_
 intro b2
 refine LJ_box (cs := #[_, _]) rfl rfl rfl rfl ?_
 intro b3
 refine LJ_y rfl rfl (YJ_assign rfl) ?_
 refine LJ_nil ?_
 refine QJ_then ?_
 refine CJ_seq ?_
 refine CJ_reg ?_
 refine LJ_y rfl rfl (YJ_loadN (vs := [_, _]) rfl tyi_23 m2 rfl rfl) ?_
 refine LJ_y rfl rfl (YJ_loadN (vs := [_, _]) rfl tyi_23 m1 rfl rfl) ?_
 refine LJ_y rfl rfl (YJ_loadN (vs := [_, _]) rfl tyi_23 m0 rfl rfl) ?_
 refine LJ_callX rfl rfl rfl rfl rfl (parea2_c ha hb hc) (AllIn.sub (by first | exact trivial | exact And.intro (by repeat first | exact .head _ | apply List.Mem.tail) trivial | exact And.intro (by repeat first | exact .head _ | apply List.Mem.tail) (And.intro (by repeat first | exact .head _ | apply List.Mem.tail) trivial))) ?_
 rintro ⟨hih, loh⟩ h
 dsimp only [wvP, List.cons_append, List.nil_append] at h ⊢
 refine LJ_call0 rfl rfl rfl rfl rfl (wsign_c h (A2_r ha hb hc)) (AllIn.sub (by first | exact trivial | exact And.intro (by repeat first | exact .head _ | apply List.Mem.tail) trivial | exact And.intro (by repeat first | exact .head _ | apply List.Mem.tail) (And.intro (by repeat first | exact .head _ | apply List.Mem.tail) trivial))) ?_
 refine LJ_y rfl rfl (YJ_assign rfl) ?_
 refine LJ_nil ?_
 refine QJ_then ?_
 refine CJ_ret ?_
 refine QJ_fin (.inl rfl) (μ' := []) (μr := _) (φ' := []) (res_tmp rfl rfl) (List.Perm.refl _) (fun _ h => nomatch h) ?_
 exact ⟨rfl, rfl, rfl⟩
end Go.Proofs.Ytbanlhlggkdanaa
namespace Go.Proofs.Ytbanlhlggkdanaa
open Go.RowKit
theorem ent_88 : Enter Try.prog 88 = true := by kernel_rfl
theorem ulen_55 : ((#[55] : Array TypeId)[0]?).bind Try.prog.underlying = some (.slice (Try.prog.elem ((#[55] : Array TypeId).getD 0 0))) := by kernel_rfl
theorem elt_55 : elt Try.prog 55 = some (3, 1, 8) := by kernel_rfl
theorem ent_89 : Enter Try.prog 89 = true := by kernel_rfl
theorem ent_90 : Enter Try.prog 90 = true := by kernel_rfl
theorem ent_92 : Enter Try.prog 92 = true := by kernel_rfl
theorem ent_93 : Enter Try.prog 93 = true := by kernel_rfl
theorem ulen_169 : ((#[169] : Array TypeId)[0]?).bind Try.prog.underlying = some (.slice (Try.prog.elem ((#[169] : Array TypeId).getD 0 0))) := by kernel_rfl
theorem elt_169 : elt Try.prog 169 = some (100, 2, 32) := by kernel_rfl
theorem Iv_get' {l : List Int} {j k : Nat} (h : j = k) (hk : k < l.length) : (Iv l)[j]? = some (.int .i64 (l.getD k 0)) := by
 have := Iv_get h hk
 rwa [lget_eq] at this
def S30 (x : Int) : Prop := -1073741824 ≤ x ∧ x ≤ 1073741824
instance (x : Int) : Decidable (S30 x) := inferInstanceAs (Decidable (_ ∧ _))
theorem s30_F {l : List Int} {i : Nat} (h : i < l.length) (hn : ¬ S30 (l.getD i 0)) : false = l.all fun x => decide (S30 x) := by
 symm
 rw [List.all_eq_false]
 refine ⟨l.getD i 0, ?_, by simpa using hn⟩
 rw [List.getD, List.getElem?_eq_getElem h]
 exact List.getElem_mem h
theorem s30_T {l : List Int} (h : ∀ j, j < l.length → S30 (l.getD j 0)) : true = l.all fun x => decide (S30 x) := by
 symm
 rw [List.all_eq_true]
 intro x hx
 obtain ⟨j, hj, rfl⟩ := List.getElem_of_mem hx
 have := h j hj
 rw [List.getD, List.getElem?_eq_getElem hj] at this
 exact decide_eq_true this
theorem all6 {a b c d e f : Int} (h : ([a, b, c, d, e, f].all fun x => decide (S30 x)) = true) : S30 a ∧ S30 b ∧ S30 c ∧ S30 d ∧ S30 e ∧ S30 f := by
 simpa using h
theorem mul_kl {x y k l : Int} (hx : -k ≤ x ∧ x ≤ k) (hy : 0 ≤ y ∧ y ≤ l) : -(k * l) ≤ x * y ∧ x * y ≤ k * l := by
 have h0 : 0 ≤ k := by omega
 have h2 : k * y ≤ k * l := Int.mul_le_mul_of_nonneg_left hy.2 h0
 constructor
 ·have h1 : -k * y ≤ x * y := Int.mul_le_mul_of_nonneg_right hx.1 hy.1
  rw [Int.neg_mul] at h1
  omega
 ·have h1 : x * y ≤ k * y := Int.mul_le_mul_of_nonneg_right hx.2 hy.1
  omega
theorem abs_kl {x y k l : Int} (hx : -k ≤ x ∧ x ≤ k) (hy : -l ≤ y ∧ y ≤ l) : -(k * l) ≤ x * y ∧ x * y ≤ k * l := by
 rcases Int.le_total 0 y with h | h
 ·exact mul_kl hx ⟨h, hy.2⟩
 ·have := mul_kl (y := -y) (l := l) hx ⟨by omega, by omega⟩
  rw [Int.mul_neg] at this
  omega
theorem S30.q {x : Int} (h : S30 x) : 0 ≤ x * x ∧ x * x ≤ 1152921504606846976 := by
 have h1 := abs_kl (x := x) (y := x) (k := 1073741824) (l := 1073741824) (by unfold S30 at h; omega) (by unfold S30 at h; omega)
 have h2 : 0 ≤ x * x := by
  rcases Int.le_total 0 x with h | h
  ·exact Int.mul_nonneg h h
  ·exact Int.mul_nonneg_of_nonpos_of_nonpos h h
 omega
theorem S30.i {x : Int} (h : S30 x) : I64 x := by unfold S30 at h; unfold I64; omega
theorem S30.det {a b c d : Int} (ha : S30 a) (hb : S30 b) (hc : S30 c) (hd : S30 d) : -2305843009213693952 ≤ det a b c d ∧ det a b c d ≤ 2305843009213693952 := by
 have h1 := abs_kl (x := a) (y := d) (k := 1073741824) (l := 1073741824) (by unfold S30 at ha; omega) (by unfold S30 at hd; omega)
 have h2 := abs_kl (x := b) (y := c) (k := 1073741824) (l := 1073741824) (by unfold S30 at hb; omega) (by unfold S30 at hc; omega)
 unfold Go.Proofs.Ytbanlhlggkdanaa.det; omega
def inc (a1 a2 e1 e2 c1 c2 : Int) : Int := det e1 e2 c1 c2 * (a1 * a1 + a2 * a2) + det c1 c2 a1 a2 * (e1 * e1 + e2 * e2) + det a1 a2 e1 e2 * (c1 * c1 + c2 * c2)
theorem S30.term {a b c d x y : Int} (ha : S30 a) (hb : S30 b) (hc : S30 c) (hd : S30 d) (hx : S30 x) (hy : S30 y) : -5316911983139663491615228241121378304 ≤ Go.Proofs.Ytbanlhlggkdanaa.det a b c d * (x * x + y * y) ∧ Go.Proofs.Ytbanlhlggkdanaa.det a b c d * (x * x + y * y) ≤ 5316911983139663491615228241121378304 := by
 have h1 := S30.det ha hb hc hd
 have h2 := hx.q
 have h3 := hy.q
 exact mul_kl (k := 2305843009213693952) (l := 2305843009213693952) (by omega) (by omega)
abbrev NumT := Int × Option Addr × Nat
def numCells (L : List NumT) : List Value := L.flatMap fun t => [.bool (decide (t.1 < 0)), .slice t.2.1 (dl t.1) t.2.2]
def psum : List NumT → Int
 | [] => 0
 | t :: r => t.1 + psum r
theorem psum_succ : ∀ {L : List NumT} {i : Nat} {t : NumT}, L[i]? = some t → psum (L.take (i + 1)) = psum (L.take i) + t.1
 | [], i, t, h => by simp at h
 | u :: L, 0, t, h => by
  simp at h
  subst h
  simp [psum]
 | u :: L, i + 1, t, h => by
  have := psum_succ (L := L) (i := i) (t := t) (by simpa using h)
  simp only [List.take_succ_cons, psum] at this ⊢
  omega
theorem numCells_get : ∀ {L : List NumT} {i : Nat} {t : NumT}, L[i]? = some t → ((numCells L).drop (i * 2)).take 2 = [.bool (decide (t.1 < 0)), .slice t.2.1 (dl t.1) t.2.2]
 | [], i, t, h => by simp at h
 | u :: L, 0, t, h => by
  simp at h
  subst h
  simp [numCells]
 | u :: L, i + 1, t, h => by
  have := numCells_get (L := L) (i := i) (t := t) (by simpa using h)
  rw [← this, Nat.succ_mul]
  simp [numCells]
theorem sub_round {a b c : Res} {l : List Res} : ∀ r, r ∈ b :: l → r ∈ a :: b :: c :: l := fun r hr => by
 rcases List.mem_cons.1 hr with rfl | hr
 ·exact .tail _ (.head _)
 ·exact .tail _ (.tail _ (.tail _ hr))
theorem dl_zero : dl 0 = 0 := by unfold dl; rw [Int.natAbs_zero, digits_zero]; rfl
theorem dF_nil (w : World) : (numF 0 none).p w (fun _ => False) := by
 have : numF 0 none = lF none [] := by unfold numF dF lF; rw [Int.natAbs_zero, digits_zero]
 rw [this]
 exact sliceR_nil 1 none w
set_option maxRecDepth 100000 in
set_option maxHeartbeats 1000000 in
theorem small_c {A : Option Addr} {n c : Nat} {l : List Int} (hn : n = l.length) (hl : l.length ≤ 1000) : Tri Try.prog 88 [.slice A n c] [] [sliceR 1 A l.length (Iv l)] (Ret0 (.bool (l.all fun x => decide (S30 x)))) := by
 refine Tri_of (N := 18) Try.func88 rfl ent_88 rfl rfl ?_
 intro w0 S0 T0
 show CJ _ _ _ [(0, _)] _ _
 subst hn
 refine CJ_seq ?_
 refine CJ_reg ?_
 refine LJ_y rfl rfl (YJ_assign rfl) ?_
 refine LJ_nil ?_
 refine QJ_then ?_
 refine CJ_seq ?_
 refine CJ_seq ?_
 refine CJ_reg ?_
 refine LJ_y rfl rfl (YJ_move rfl) ?_
 refine LJ_y rfl rfl (YJ_len rfl ulen_55 rfl) ?_
 refine LJ_y rfl rfl (YJ_move rfl) ?_
 refine LJ_nil ?_
 refine QJ_then ?_
 refine CJ_block ?_
 refine CJ_loop (F := fun (x : Nat) => ⟨[(5, .slice A l.length c), (6, .int .i64 (l.length : Int)), (7, .int .i64 (x : Int))], [], [sliceR 1 A l.length (Iv l)]⟩) (I := fun (x : Nat) => x ≤ l.length ∧ ∀ j, j < x → S30 (l.getD j 0)) (m := fun (x : Nat) => l.length - x) 0 (μr := []) ⟨Nat.zero_le _, fun j hj => absurd hj (Nat.not_lt_zero j)⟩ (And.intro rfl (And.intro rfl (And.intro rfl (trivial)))) (List.Perm.refl _) (fun _ h => h) ?_
 rintro i ⟨hi, hr⟩
 try dsimp only at hi
 try dsimp only at hr
 show CJ _ _ _ [(5, .slice A l.length c), (6, .int .i64 (l.length : Int)), (7, .int .i64 (i : Int))] [] [sliceR 1 A l.length (Iv l)]
 refine CJ_seq ?_
 refine CJ_reg ?_
 refine LJ_y rfl rfl (YJ_bin rfl rfl rfl) ?_
 refine LJ_nil ?_
 refine QJ_then ?_
 refine CJ_seq ?_
 refine CJ_cond rfl (fun h8 => ?_) (fun h8 => ?_)
 ·simp only [decide_eq_true_eq] at h8
  refine CJ_skip ?_
  refine QJ_then ?_
  refine CJ_seq ?_
  refine CJ_block ?_
  refine CJ_seq ?_
  refine CJ_reg ?_
  refine LJ_y rfl rfl (YJ_ixFact rfl rfl elt_55 m0 (by decide) (by omega) (by omega) (by omega)) ?_
  refine LJ_y rfl rfl (YJ_loadFact (xs := Iv l) rfl tyi_3 m0 (Iv_get' (k := i) (by omega) (by omega))) ?_
  refine LJ_y rfl rfl (YJ_assign rfl) ?_
  refine LJ_nil ?_
  refine QJ_then ?_
  refine CJ_seq ?_
  refine CJ_reg ?_
  refine LJ_y rfl rfl (YJ_move rfl) ?_
  refine LJ_y rfl rfl (YJ_bin rfl rfl rfl) ?_
  refine LJ_y rfl rfl (YJ_move rfl) ?_
  refine LJ_boolC (fun h13 => ?_) (fun h13 => ?_)
  ·simp only [decide_eq_true_eq] at h13
   refine LJ_skip rfl rfl ?_
   refine LJ_skip rfl rfl ?_
   refine LJ_y rfl rfl (YJ_pickT rfl rfl) ?_
   refine LJ_nil ?_
   refine QJ_then ?_
   refine CJ_condT rfl ?_
   refine CJ_seq ?_
   refine CJ_reg ?_
   refine LJ_y rfl rfl (YJ_assign rfl) ?_
   refine LJ_nil ?_
   refine QJ_then ?_
   refine CJ_ret ?_
   refine QJ_in_ret ?_
   refine QJ_then_ret ?_
   refine QJ_then_ret ?_
   refine QJ_in_ret ?_
   refine QJ_then_ret ?_
   refine QJ_fin (.inl rfl) (μ' := []) (μr := _) (φ' := []) (res_tmp rfl rfl) (List.Perm.refl _) (fun _ h => nomatch h) ?_
   exact ⟨congrArg Value.bool (s30_F (i := i) (by omega) (fun q => by unfold S30 at q; omega)), rfl, rfl⟩
  ·simp only [decide_eq_false_iff_not] at h13
   refine LJ_y rfl rfl (YJ_move rfl) ?_
   refine LJ_y rfl rfl (YJ_bin rfl rfl rfl) ?_
   refine LJ_y rfl rfl (YJ_pickF rfl rfl) ?_
   refine LJ_nil ?_
   refine QJ_then ?_
   refine CJ_cond rfl (fun h16 => ?_) (fun h16 => ?_)
   ·simp only [decide_eq_true_eq] at h16
    refine CJ_seq ?_
    refine CJ_reg ?_
    refine LJ_y rfl rfl (YJ_assign rfl) ?_
    refine LJ_nil ?_
    refine QJ_then ?_
    refine CJ_ret ?_
    refine QJ_in_ret ?_
    refine QJ_then_ret ?_
    refine QJ_then_ret ?_
    refine QJ_in_ret ?_
    refine QJ_then_ret ?_
    refine QJ_fin (.inl rfl) (μ' := []) (μr := _) (φ' := []) (res_tmp rfl rfl) (List.Perm.refl _) (fun _ h => nomatch h) ?_
    exact ⟨congrArg Value.bool (s30_F (i := i) (by omega) (fun q => by unfold S30 at q; omega)), rfl, rfl⟩
   ·simp only [decide_eq_false_iff_not] at h16
    refine CJ_skip ?_
    refine QJ_in_normal ?_
    refine QJ_then ?_
    refine CJ_reg ?_
    refine LJ_y rfl rfl (YJ_bin rfl rfl (iop_add (by omega))) ?_
    refine LJ_y rfl rfl (YJ_move rfl) ?_
    refine LJ_nil ?_
    refine QJ_round (F := fun (x : Nat) => ⟨[(5, .slice A l.length c), (6, .int .i64 (l.length : Int)), (7, .int .i64 (x : Int))], [], [sliceR 1 A l.length (Iv l)]⟩) (I := fun (x : Nat) => x ≤ l.length ∧ ∀ j, j < x → S30 (l.getD j 0)) (m := fun (x : Nat) => l.length - x) (i := i) ((i + 1)) (μr := []) ⟨by omega, all_step hr ⟨by omega, by omega⟩⟩ (by omega) (And.intro rfl (And.intro rfl (And.intro rfl (trivial)))) (List.Perm.refl _) (fun _ h => h)
 ·simp only [decide_eq_false_iff_not] at h8
  obtain rfl : i = l.length := by omega
  refine CJ_exit ?_
  refine QJ_then_exit ?_
  refine QJ_then_exit ?_
  refine QJ_in_exit ?_
  refine QJ_then ?_
  refine CJ_seq ?_
  refine CJ_reg ?_
  refine LJ_y rfl rfl (YJ_assign rfl) ?_
  refine LJ_nil ?_
  refine QJ_then ?_
  refine CJ_ret ?_
  refine QJ_fin (.inl rfl) (μ' := []) (μr := _) (φ' := []) (res_tmp rfl rfl) (List.Perm.refl _) (fun _ h => nomatch h) ?_
  exact ⟨congrArg Value.bool (s30_T hr), rfl, rfl⟩
set_option maxRecDepth 100000 in
set_option maxHeartbeats 4000000 in
theorem quick_c {a1 a2 e1 e2 c1 c2 : Int} (ha1 : S30 a1) (ha2 : S30 a2) (he1 : S30 e1) (he2 : S30 e2) (hc1 : S30 c1) (hc2 : S30 c2) : Tri Try.prog 89 [.int .i64 a1, .int .i64 a2, .int .i64 e1, .int .i64 e2, .int .i64 c1, .int .i64 c2] [] [] (Ret0 (.int .i64 (sgn (inc a1 a2 e1 e2 c1 c2)))) := by
 refine Tri_of (N := 81) Try.func89 rfl ent_89 rfl rfl ?_
 intro w0 S0 T0
 show CJ _ _ _ [(0, _), (1, _), (2, _), (3, _), (4, _), (5, _)] _ _
 have bd1 := S30.det he1 he2 hc1 hc2
 have bd2 := S30.det hc1 hc2 ha1 ha2
 have bd3 := S30.det ha1 ha2 he1 he2
 have bt1 := S30.term he1 he2 hc1 hc2 ha1 ha2
 have bt2 := S30.term hc1 hc2 ha1 ha2 he1 he2
 have bt3 := S30.term ha1 ha2 he1 he2 hc1 hc2
 have rd1 : R128 (det e1 e2 c1 c2) := by unfold R128; omega
 have rd2 : R128 (det c1 c2 a1 a2) := by unfold R128; omega
 have rd3 : R128 (det a1 a2 e1 e2) := by unfold R128; omega
 have rt1 : R128 (det e1 e2 c1 c2 * (a1 * a1 + a2 * a2)) := by unfold R128; omega
 have rt2 : R128 (det c1 c2 a1 a2 * (e1 * e1 + e2 * e2)) := by unfold R128; omega
 have rt3 : R128 (det a1 a2 e1 e2 * (c1 * c1 + c2 * c2)) := by unfold R128; omega
 have rs1 : R128 (det e1 e2 c1 c2 * (a1 * a1 + a2 * a2) + det c1 c2 a1 a2 * (e1 * e1 + e2 * e2)) := by unfold R128; omega
 have rs2 : R128 (inc a1 a2 e1 e2 c1 c2) := by unfold inc R128; omega
 refine CJ_seq ?_
 refine CJ_reg ?_
 refine LJ_y rfl rfl (YJ_assign rfl) ?_
 refine LJ_nil ?_
 refine QJ_then ?_
 refine CJ_seq ?_
 refine CJ_reg ?_
 refine LJ_y rfl rfl (YJ_move rfl) ?_
 refine LJ_y rfl rfl (YJ_move rfl) ?_
 refine LJ_y rfl rfl (YJ_move rfl) ?_
 refine LJ_y rfl rfl (YJ_move rfl) ?_
 refine LJ_callX rfl rfl rfl rfl rfl (wdet_c he1.i he2.i hc1.i hc2.i) (AllIn.sub (by first | exact trivial | exact And.intro (by repeat first | exact .head _ | apply List.Mem.tail) trivial | exact And.intro (by repeat first | exact .head _ | apply List.Mem.tail) (And.intro (by repeat first | exact .head _ | apply List.Mem.tail) trivial))) ?_
 rw [if_pos rd1]
 rintro ⟨hid1, lod1⟩ d1
 dsimp only [wvP, List.cons_append, List.nil_append] at d1 ⊢
 refine LJ_y rfl rfl (YJ_move rfl) ?_
 refine LJ_y rfl rfl (YJ_move rfl) ?_
 refine LJ_y rfl rfl (YJ_bin rfl rfl (iop_mul (by have := ha1.q; omega))) ?_
 refine LJ_y rfl rfl (YJ_move rfl) ?_
 refine LJ_y rfl rfl (YJ_move rfl) ?_
 refine LJ_y rfl rfl (YJ_bin rfl rfl (iop_mul (by have := ha2.q; omega))) ?_
 refine LJ_y rfl rfl (YJ_bin rfl rfl (iop_add (by have := ha1.q; have := ha2.q; omega))) ?_
 refine LJ_callX rfl rfl rfl rfl rfl (wtimes_c d1 rd1 (by have := ha1.q; have := ha2.q; unfold I64; omega)) (AllIn.sub (by first | exact trivial | exact And.intro (by repeat first | exact .head _ | apply List.Mem.tail) trivial | exact And.intro (by repeat first | exact .head _ | apply List.Mem.tail) (And.intro (by repeat first | exact .head _ | apply List.Mem.tail) trivial))) ?_
 rw [if_pos rt1, decide_eq_true rt1]
 rintro ⟨hit1, lot1⟩ t1
 dsimp only [wvP, List.cons_append, List.nil_append] at t1 ⊢
 refine LJ_y rfl rfl (YJ_move rfl) ?_
 refine LJ_y rfl rfl (YJ_extract rfl rfl) ?_
 refine LJ_y rfl rfl (YJ_extract rfl rfl) ?_
 refine LJ_alloc (cs := #[_, _]) rfl rfl zer_110 rfl ?_
 intro b1
 refine LJ_store (cs' := #[_, _]) (μ' := [_]) 0 rfl rfl rfl rfl tyi_110 rfl (Nat.le_of_ble_eq_true rfl) rfl rfl rfl ?_
 refine LJ_y rfl rfl (YJ_assign rfl) ?_
 refine LJ_nil ?_
 refine QJ_then ?_
 refine CJ_seq ?_
 refine CJ_reg ?_
 refine LJ_y rfl rfl (YJ_move rfl) ?_
 refine LJ_y rfl rfl (YJ_move rfl) ?_
 refine LJ_y rfl rfl (YJ_move rfl) ?_
 refine LJ_y rfl rfl (YJ_move rfl) ?_
 refine LJ_callX rfl rfl rfl rfl rfl (wdet_c hc1.i hc2.i ha1.i ha2.i) (AllIn.sub (by first | exact trivial | exact And.intro (by repeat first | exact .head _ | apply List.Mem.tail) trivial | exact And.intro (by repeat first | exact .head _ | apply List.Mem.tail) (And.intro (by repeat first | exact .head _ | apply List.Mem.tail) trivial))) ?_
 rw [if_pos rd2]
 rintro ⟨hid2, lod2⟩ d2
 dsimp only [wvP, List.cons_append, List.nil_append] at d2 ⊢
 refine LJ_y rfl rfl (YJ_move rfl) ?_
 refine LJ_y rfl rfl (YJ_move rfl) ?_
 refine LJ_y rfl rfl (YJ_bin rfl rfl (iop_mul (by have := he1.q; omega))) ?_
 refine LJ_y rfl rfl (YJ_move rfl) ?_
 refine LJ_y rfl rfl (YJ_move rfl) ?_
 refine LJ_y rfl rfl (YJ_bin rfl rfl (iop_mul (by have := he2.q; omega))) ?_
 refine LJ_y rfl rfl (YJ_bin rfl rfl (iop_add (by have := he1.q; have := he2.q; omega))) ?_
 refine LJ_callX rfl rfl rfl rfl rfl (wtimes_c d2 rd2 (by have := he1.q; have := he2.q; unfold I64; omega)) (AllIn.sub (by first | exact trivial | exact And.intro (by repeat first | exact .head _ | apply List.Mem.tail) trivial | exact And.intro (by repeat first | exact .head _ | apply List.Mem.tail) (And.intro (by repeat first | exact .head _ | apply List.Mem.tail) trivial))) ?_
 rw [if_pos rt2, decide_eq_true rt2]
 rintro ⟨hit2, lot2⟩ t2
 dsimp only [wvP, List.cons_append, List.nil_append] at t2 ⊢
 refine LJ_y rfl rfl (YJ_move rfl) ?_
 refine LJ_y rfl rfl (YJ_extract rfl rfl) ?_
 refine LJ_y rfl rfl (YJ_extract rfl rfl) ?_
 refine LJ_alloc (cs := #[_, _]) rfl rfl zer_110 rfl ?_
 intro b2
 refine LJ_store (cs' := #[_, _]) (μ' := [_, _]) 0 rfl rfl rfl rfl tyi_110 rfl (Nat.le_of_ble_eq_true rfl) rfl rfl rfl ?_
 refine LJ_y rfl rfl (YJ_assign rfl) ?_
 refine LJ_nil ?_
 refine QJ_then ?_
 refine CJ_seq ?_
 refine CJ_reg ?_
 refine LJ_y rfl rfl (YJ_move rfl) ?_
 refine LJ_y rfl rfl (YJ_move rfl) ?_
 refine LJ_y rfl rfl (YJ_move rfl) ?_
 refine LJ_y rfl rfl (YJ_move rfl) ?_
 refine LJ_callX rfl rfl rfl rfl rfl (wdet_c ha1.i ha2.i he1.i he2.i) (AllIn.sub (by first | exact trivial | exact And.intro (by repeat first | exact .head _ | apply List.Mem.tail) trivial | exact And.intro (by repeat first | exact .head _ | apply List.Mem.tail) (And.intro (by repeat first | exact .head _ | apply List.Mem.tail) trivial))) ?_
 rw [if_pos rd3]
 rintro ⟨hid3, lod3⟩ d3
 dsimp only [wvP, List.cons_append, List.nil_append] at d3 ⊢
 refine LJ_y rfl rfl (YJ_move rfl) ?_
 refine LJ_y rfl rfl (YJ_move rfl) ?_
 refine LJ_y rfl rfl (YJ_bin rfl rfl (iop_mul (by have := hc1.q; omega))) ?_
 refine LJ_y rfl rfl (YJ_move rfl) ?_
 refine LJ_y rfl rfl (YJ_move rfl) ?_
 refine LJ_y rfl rfl (YJ_bin rfl rfl (iop_mul (by have := hc2.q; omega))) ?_
 refine LJ_y rfl rfl (YJ_bin rfl rfl (iop_add (by have := hc1.q; have := hc2.q; omega))) ?_
 refine LJ_callX rfl rfl rfl rfl rfl (wtimes_c d3 rd3 (by have := hc1.q; have := hc2.q; unfold I64; omega)) (AllIn.sub (by first | exact trivial | exact And.intro (by repeat first | exact .head _ | apply List.Mem.tail) trivial | exact And.intro (by repeat first | exact .head _ | apply List.Mem.tail) (And.intro (by repeat first | exact .head _ | apply List.Mem.tail) trivial))) ?_
 rw [if_pos rt3, decide_eq_true rt3]
 rintro ⟨hit3, lot3⟩ t3
 dsimp only [wvP, List.cons_append, List.nil_append] at t3 ⊢
 refine LJ_y rfl rfl (YJ_move rfl) ?_
 refine LJ_y rfl rfl (YJ_extract rfl rfl) ?_
 refine LJ_y rfl rfl (YJ_extract rfl rfl) ?_
 refine LJ_alloc (cs := #[_, _]) rfl rfl zer_110 rfl ?_
 intro b3
 refine LJ_store (cs' := #[_, _]) (μ' := [_, _, _]) 0 rfl rfl rfl rfl tyi_110 rfl (Nat.le_of_ble_eq_true rfl) rfl rfl rfl ?_
 refine LJ_y rfl rfl (YJ_assign rfl) ?_
 refine LJ_nil ?_
 refine QJ_then ?_
 refine CJ_seq ?_
 refine CJ_reg ?_
 refine LJ_y rfl rfl (YJ_loadN (vs := [_, _]) rfl tyi_110 m2 rfl rfl) ?_
 refine LJ_y rfl rfl (YJ_loadN (vs := [_, _]) rfl tyi_110 m1 rfl rfl) ?_
 refine LJ_callX rfl rfl rfl rfl rfl (wadd_c t1 t2 rt1 rt2) (AllIn.sub (by first | exact trivial | exact And.intro (by repeat first | exact .head _ | apply List.Mem.tail) trivial | exact And.intro (by repeat first | exact .head _ | apply List.Mem.tail) (And.intro (by repeat first | exact .head _ | apply List.Mem.tail) trivial))) ?_
 rw [if_pos rs1, decide_eq_true rs1]
 rintro ⟨his1, los1⟩ s1
 dsimp only [wvP, List.cons_append, List.nil_append] at s1 ⊢
 refine LJ_y rfl rfl (YJ_move rfl) ?_
 refine LJ_y rfl rfl (YJ_extract rfl rfl) ?_
 refine LJ_y rfl rfl (YJ_extract rfl rfl) ?_
 refine LJ_store (cs' := #[_, _]) (μ' := [_, _, _]) 2 rfl rfl rfl rfl tyi_110 rfl (Nat.le_of_ble_eq_true rfl) rfl rfl rfl ?_
 refine LJ_nil ?_
 refine QJ_then ?_
 refine CJ_seq ?_
 refine CJ_reg ?_
 refine LJ_y rfl rfl (YJ_loadN (vs := [_, _]) rfl tyi_110 m2 rfl rfl) ?_
 refine LJ_y rfl rfl (YJ_loadN (vs := [_, _]) rfl tyi_110 m0 rfl rfl) ?_
 refine LJ_callX rfl rfl rfl rfl rfl (show Tri _ _ _ _ _ (RetWo (inc a1 a2 e1 e2 c1 c2)) from wadd_c s1 t3 rs1 rt3) (AllIn.sub (by first | exact trivial | exact And.intro (by repeat first | exact .head _ | apply List.Mem.tail) trivial | exact And.intro (by repeat first | exact .head _ | apply List.Mem.tail) (And.intro (by repeat first | exact .head _ | apply List.Mem.tail) trivial))) ?_
 rw [if_pos rs2, decide_eq_true rs2]
 rintro ⟨his2, los2⟩ s2
 dsimp only [wvP, List.cons_append, List.nil_append] at s2 ⊢
 refine LJ_y rfl rfl (YJ_move rfl) ?_
 refine LJ_y rfl rfl (YJ_extract rfl rfl) ?_
 refine LJ_y rfl rfl (YJ_extract rfl rfl) ?_
 refine LJ_store (cs' := #[_, _]) (μ' := [_, _, _]) 2 rfl rfl rfl rfl tyi_110 rfl (Nat.le_of_ble_eq_true rfl) rfl rfl rfl ?_
 refine LJ_nil ?_
 refine QJ_then ?_
 refine CJ_seq ?_
 refine CJ_reg ?_
 refine LJ_y rfl rfl (YJ_loadN (vs := [_, _]) rfl tyi_110 m2 rfl rfl) ?_
 refine LJ_call0 rfl rfl rfl rfl rfl (wsign_c s2 rs2) (AllIn.sub (by first | exact trivial | exact And.intro (by repeat first | exact .head _ | apply List.Mem.tail) trivial | exact And.intro (by repeat first | exact .head _ | apply List.Mem.tail) (And.intro (by repeat first | exact .head _ | apply List.Mem.tail) trivial))) ?_
 refine LJ_y rfl rfl (YJ_assign rfl) ?_
 refine LJ_nil ?_
 refine QJ_then ?_
 refine CJ_ret ?_
 refine QJ_fin (.inl rfl) (μ' := []) (μr := _) (φ' := []) (res_tmp rfl rfl) (List.Perm.refl _) (fun _ h => nomatch h) ?_
 exact ⟨rfl, rfl, rfl⟩
set_option maxRecDepth 100000 in
set_option maxHeartbeats 1000000 in
theorem csq_c {x y : Int} (hx : T62 x) (hy : T62 y) : Tri Try.prog 90 [.int .i64 x, .int .i64 y] [] [] (RetN (x * x + y * y)) := by
 refine Tri_of (N := 14) Try.func90 rfl ent_90 rfl rfl ?_
 intro w0 S0 T0
 show CJ _ _ _ [(0, _), (1, _)] _ _
 refine CJ_seq ?_
 refine CJ_reg ?_
 refine LJ_alloc (cs := #[_, _]) rfl rfl zer_100 rfl ?_
 intro b1
 refine LJ_nil ?_
 refine QJ_then ?_
 refine CJ_seq ?_
 refine CJ_reg ?_
 refine LJ_y rfl rfl (YJ_move rfl) ?_
 refine LJ_y rfl rfl (YJ_move rfl) ?_
 refine LJ_callX rfl rfl rfl rfl rfl (wmul_c hx.i hx.i) (AllIn.sub (by first | exact trivial | exact And.intro (by repeat first | exact .head _ | apply List.Mem.tail) trivial | exact And.intro (by repeat first | exact .head _ | apply List.Mem.tail) (And.intro (by repeat first | exact .head _ | apply List.Mem.tail) trivial))) ?_
 rintro ⟨hiv, lov⟩ v
 dsimp only [wvP, List.cons_append, List.nil_append] at v ⊢
 refine LJ_callX rfl rfl rfl rfl rfl (wnum_c v (mul_r62 hx hx)) (AllIn.sub (by first | exact trivial | exact And.intro (by repeat first | exact .head _ | apply List.Mem.tail) trivial | exact And.intro (by repeat first | exact .head _ | apply List.Mem.tail) (And.intro (by repeat first | exact .head _ | apply List.Mem.tail) trivial))) ?_
 rintro ⟨A1, k1⟩ hcap1
 dsimp only at hcap1
 dsimp only [List.cons_append, List.nil_append]
 refine LJ_y rfl rfl (YJ_move rfl) ?_
 refine LJ_y rfl rfl (YJ_move rfl) ?_
 refine LJ_callX rfl rfl rfl rfl rfl (wmul_c hy.i hy.i) (AllIn.sub (by first | exact trivial | exact And.intro (by repeat first | exact .head _ | apply List.Mem.tail) trivial | exact And.intro (by repeat first | exact .head _ | apply List.Mem.tail) (And.intro (by repeat first | exact .head _ | apply List.Mem.tail) trivial))) ?_
 rintro ⟨hiw, low⟩ w
 dsimp only [wvP, List.cons_append, List.nil_append] at w ⊢
 refine LJ_callX rfl rfl rfl rfl rfl (wnum_c w (mul_r62 hy hy)) (AllIn.sub (by first | exact trivial | exact And.intro (by repeat first | exact .head _ | apply List.Mem.tail) trivial | exact And.intro (by repeat first | exact .head _ | apply List.Mem.tail) (And.intro (by repeat first | exact .head _ | apply List.Mem.tail) trivial))) ?_
 rintro ⟨A2, k2⟩ hcap2
 dsimp only at hcap2
 dsimp only [List.cons_append, List.nil_append]
 refine LJ_callX rfl rfl rfl rfl rfl (nadd_c (dl_big (mul_r62 hx hx)) (dl_big (mul_r62 hy hy)) hcap1 hcap2) (AllIn.sub (And.intro m1 (And.intro m0 trivial))) ?_
 rintro ⟨A3, k3⟩ hcap3
 dsimp only at hcap3
 dsimp only [List.cons_append, List.nil_append]
 refine LJ_store (cs' := #[_, _]) (μ' := [_]) 0 rfl rfl rfl rfl tyi_100 rfl (Nat.le_of_ble_eq_true rfl) rfl rfl rfl ?_
 refine LJ_nil ?_
 refine QJ_then ?_
 refine CJ_ret ?_
 refine QJ_fin (.inl rfl) (μ' := []) (μr := _) (φ' := [numF (x * x + y * y) A3]) (res_cell (vs := [_, _]) rfl rfl m0 tyi_100 rfl) (List.Perm.refl _) (AllIn.sub (And.intro (.head _) trivial)) ?_
 exact ⟨(A3, k3), hcap3, rfl, rfl, rfl⟩
set_option maxRecDepth 100000 in
set_option maxHeartbeats 1000000 in
theorem cdet_c {a e c d : Int} (ha : T62 a) (he : T62 e) (hc : T62 c) (hd : T62 d) : Tri Try.prog 92 [.int .i64 a, .int .i64 e, .int .i64 c, .int .i64 d] [] [] (RetN (det a e c d)) := by
 refine Tri_of (N := 15) Try.func92 rfl ent_92 rfl rfl ?_
 intro w0 S0 T0
 show CJ _ _ _ [(0, _), (1, _), (2, _), (3, _)] _ _
 refine CJ_seq ?_
 refine CJ_reg ?_
 refine LJ_alloc (cs := #[_, _]) rfl rfl zer_100 rfl ?_
 intro b1
 refine LJ_nil ?_
 refine QJ_then ?_
 refine CJ_seq ?_
 refine CJ_reg ?_
 refine LJ_y rfl rfl (YJ_move rfl) ?_
 refine LJ_y rfl rfl (YJ_move rfl) ?_
 refine LJ_y rfl rfl (YJ_move rfl) ?_
 refine LJ_y rfl rfl (YJ_move rfl) ?_
 refine LJ_callX rfl rfl rfl rfl rfl (wdet_c ha.i he.i hc.i hd.i) (AllIn.sub (by first | exact trivial | exact And.intro (by repeat first | exact .head _ | apply List.Mem.tail) trivial | exact And.intro (by repeat first | exact .head _ | apply List.Mem.tail) (And.intro (by repeat first | exact .head _ | apply List.Mem.tail) trivial))) ?_
 rw [if_pos (det_r ha he hc hd)]
 rintro ⟨hiv, lov⟩ v
 dsimp only [wvP, List.cons_append, List.nil_append] at v ⊢
 refine LJ_callX rfl rfl rfl rfl rfl (wnum_c v (det_r ha he hc hd)) (AllIn.sub (by first | exact trivial | exact And.intro (by repeat first | exact .head _ | apply List.Mem.tail) trivial | exact And.intro (by repeat first | exact .head _ | apply List.Mem.tail) (And.intro (by repeat first | exact .head _ | apply List.Mem.tail) trivial))) ?_
 rintro ⟨A1, k1⟩ hcap1
 dsimp only at hcap1
 dsimp only [List.cons_append, List.nil_append]
 refine LJ_store (cs' := #[_, _]) (μ' := [_]) 0 rfl rfl rfl rfl tyi_100 rfl (Nat.le_of_ble_eq_true rfl) rfl rfl rfl ?_
 refine LJ_nil ?_
 refine QJ_then ?_
 refine CJ_ret ?_
 refine QJ_fin (.inl rfl) (μ' := []) (μr := _) (φ' := [numF (det a e c d) A1]) (res_cell (vs := [_, _]) rfl rfl m0 tyi_100 rfl) (List.Perm.refl _) (AllIn.sub (And.intro (.head _) trivial)) ?_
 exact ⟨(A1, k1), hcap1, rfl, rfl, rfl⟩
set_option maxRecDepth 100000 in
set_option maxHeartbeats 1000000 in
theorem nsum_c {A0 : Option Addr} {n c0 : Nat} {L : List NumT} (hn : n = L.length) (hl : L.length ≤ 10) (hL : ∀ t, t ∈ L → dl t.1 ≤ 1000 ∧ dl t.1 ≤ t.2.2) : Tri Try.prog 93 [.slice A0 n c0] [] (sliceR 2 A0 L.length (numCells L) :: L.map fun t => numF t.1 t.2.1) (RetN (psum L)) := by
 refine Tri_of (N := 17) Try.func93 rfl ent_93 rfl rfl ?_
 intro w0 S0 T0
 show CJ _ _ _ [(0, _)] _ _
 subst hn
 refine CJ_seq ?_
 refine CJ_reg ?_
 refine LJ_alloc (cs := #[_, _]) rfl rfl zer_100 rfl ?_
 intro b1
 refine LJ_nil ?_
 refine QJ_then ?_
 refine CJ_seq ?_
 refine CJ_reg ?_
 refine LJ_alloc (cs := #[_, _]) rfl rfl zer_100 rfl ?_
 intro b2
 refine LJ_newF (r' := numF 0 none) dF_nil ?_
 refine LJ_nil ?_
 refine QJ_then ?_
 refine CJ_seq ?_
 refine CJ_seq ?_
 refine CJ_reg ?_
 refine LJ_y rfl rfl (YJ_move rfl) ?_
 refine LJ_y rfl rfl (YJ_len rfl ulen_169 rfl) ?_
 refine LJ_y rfl rfl (YJ_move rfl) ?_
 refine LJ_nil ?_
 refine QJ_then ?_
 refine CJ_block ?_
 refine CJ_loop (F := fun (x : Nat × Option Addr × Nat × Nat) => ⟨[(2, .pointer (some ⟨b1, 0, none⟩)), (3, .pointer (some ⟨b2, 0, none⟩)), (6, .slice A0 L.length c0), (7, .int .i64 (L.length : Int)), (8, .int .i64 (x.1 : Int))], [cellsR b2 #[.bool (decide (psum (L.take x.1) < 0)), .slice x.2.1 x.2.2.2 x.2.2.1] 100, cellsR b1 #[.bool false, .slice none 0 0] 100], (numF (psum (L.take x.1)) x.2.1 :: sliceR 2 A0 L.length (numCells L) :: L.map fun t => numF t.1 t.2.1)⟩) (I := fun (x : Nat × Option Addr × Nat × Nat) => x.1 ≤ L.length ∧ x.2.2.2 = dl (psum (L.take x.1)) ∧ dl (psum (L.take x.1)) ≤ x.1 * 1001 ∧ x.2.2.2 ≤ x.2.2.1) (m := fun (x : Nat × Option Addr × Nat × Nat) => L.length - x.1) (0, none, 0, 0) (μr := []) ⟨Nat.zero_le _, dl_zero.symm, Nat.le_of_eq dl_zero, Nat.le_refl _⟩ (And.intro rfl (And.intro rfl (And.intro rfl (And.intro rfl (And.intro rfl (trivial)))))) (List.Perm.refl _) (fun _ h => h) ?_
 rintro ⟨i, A, k, m⟩ ⟨hi, hm, hb, hk⟩
 try dsimp only at hi
 try dsimp only at hm
 try dsimp only at hb
 try dsimp only at hk
 show CJ _ _ _ [(2, .pointer (some ⟨b1, 0, none⟩)), (3, .pointer (some ⟨b2, 0, none⟩)), (6, .slice A0 L.length c0), (7, .int .i64 (L.length : Int)), (8, .int .i64 (i : Int))] [cellsR b2 #[.bool (decide (psum (L.take i) < 0)), .slice A m k] 100, cellsR b1 #[.bool false, .slice none 0 0] 100] (numF (psum (L.take i)) A :: sliceR 2 A0 L.length (numCells L) :: L.map fun t => numF t.1 t.2.1)
 subst hm
 refine CJ_seq ?_
 refine CJ_reg ?_
 refine LJ_y rfl rfl (YJ_bin rfl rfl rfl) ?_
 refine LJ_nil ?_
 refine QJ_then ?_
 refine CJ_seq ?_
 refine CJ_cond rfl (fun h9 => ?_) (fun h9 => ?_)
 ·simp only [decide_eq_true_eq] at h9
  obtain ⟨t, ht⟩ : ∃ t, L[i]? = some t := ⟨L[i]'(by omega), List.getElem?_eq_getElem (by omega)⟩
  have htm : t ∈ L := List.mem_of_getElem? ht
  have htm2 : numF t.1 t.2.1 ∈ L.map (fun t => numF t.1 t.2.1) := List.mem_map.2 ⟨t, htm, rfl⟩
  have hL1 := hL t htm
  refine CJ_skip ?_
  refine QJ_then ?_
  refine CJ_seq ?_
  refine CJ_block ?_
  refine CJ_seq ?_
  refine CJ_reg ?_
  refine LJ_y rfl rfl (YJ_ixFact rfl rfl elt_169 m1 (by decide) (by omega) (by omega) (by omega)) ?_
  refine LJ_y rfl rfl (YJ_loadFactN (vs := [_, _]) (xs := numCells L) rfl tyi_100 m1 (numCells_get (i := i) ht) rfl) ?_
  refine LJ_alloc (cs := #[_, _]) rfl rfl zer_100 rfl ?_
  intro b3
  refine LJ_store (cs' := #[_, _]) (μ' := [_, _, _]) 0 rfl rfl rfl rfl tyi_100 rfl (Nat.le_of_ble_eq_true rfl) rfl rfl rfl ?_
  refine LJ_nil ?_
  refine QJ_then ?_
  refine CJ_reg ?_
  refine LJ_y rfl rfl (YJ_loadN (vs := [_, _]) rfl tyi_100 m1 rfl rfl) ?_
  refine LJ_y rfl rfl (YJ_loadN (vs := [_, _]) rfl tyi_100 m0 rfl rfl) ?_
  refine LJ_callX rfl rfl rfl rfl rfl (nadd_c (a := psum (L.take i)) (b := t.1) (by omega) (by omega) hk hL1.2) (AllIn.sub (And.intro (.head _) (And.intro (.tail _ (.tail _ htm2)) trivial))) ?_
  rw [← psum_succ ht]
  rintro ⟨A1, k1⟩ hcap1
  dsimp only at hcap1
  dsimp only [List.cons_append, List.nil_append]
  refine LJ_store (cs' := #[_, _]) (μ' := [_, _, _]) 1 rfl rfl rfl rfl tyi_100 rfl (Nat.le_of_ble_eq_true rfl) rfl rfl rfl ?_
  refine LJ_freeze ?_
  refine LJ_nil ?_
  refine QJ_in_normal ?_
  refine QJ_then ?_
  refine CJ_reg ?_
  refine LJ_y rfl rfl (YJ_bin rfl rfl (iop_add (by omega))) ?_
  refine LJ_y rfl rfl (YJ_move rfl) ?_
  refine LJ_nil ?_
  refine QJ_round (F := fun (x : Nat × Option Addr × Nat × Nat) => ⟨[(2, .pointer (some ⟨b1, 0, none⟩)), (3, .pointer (some ⟨b2, 0, none⟩)), (6, .slice A0 L.length c0), (7, .int .i64 (L.length : Int)), (8, .int .i64 (x.1 : Int))], [cellsR b2 #[.bool (decide (psum (L.take x.1) < 0)), .slice x.2.1 x.2.2.2 x.2.2.1] 100, cellsR b1 #[.bool false, .slice none 0 0] 100], (numF (psum (L.take x.1)) x.2.1 :: sliceR 2 A0 L.length (numCells L) :: L.map fun t => numF t.1 t.2.1)⟩) (I := fun (x : Nat × Option Addr × Nat × Nat) => x.1 ≤ L.length ∧ x.2.2.2 = dl (psum (L.take x.1)) ∧ dl (psum (L.take x.1)) ≤ x.1 * 1001 ∧ x.2.2.2 ≤ x.2.2.1) (m := fun (x : Nat × Option Addr × Nat × Nat) => L.length - x.1) (i := (i, A, k, dl (psum (L.take i)))) ((i + 1, A1, k1, dl (psum (L.take (i + 1))))) (μr := []) ⟨by omega, rfl, by have := dl_add (a := psum (L.take i)) (b := t.1) hb hL1.1; rw [psum_succ ht]; omega, hcap1⟩ (by omega) (And.intro rfl (And.intro rfl (And.intro rfl (And.intro rfl (And.intro rfl (trivial)))))) (List.Perm.refl _) (sub_round)
 ·simp only [decide_eq_false_iff_not] at h9
  obtain rfl : i = L.length := by omega
  rw [List.take_length] at hk ⊢
  refine CJ_exit ?_
  refine QJ_then_exit ?_
  refine QJ_then_exit ?_
  refine QJ_in_exit ?_
  refine QJ_then ?_
  refine CJ_seq ?_
  refine CJ_reg ?_
  refine LJ_y rfl rfl (YJ_loadN (vs := [_, _]) rfl tyi_100 m0 rfl rfl) ?_
  refine LJ_store (cs' := #[_, _]) (μ' := [_, _]) 1 rfl rfl rfl rfl tyi_100 rfl (Nat.le_of_ble_eq_true rfl) rfl rfl rfl ?_
  refine LJ_nil ?_
  refine QJ_then ?_
  refine CJ_ret ?_
  refine QJ_fin (.inl rfl) (μ' := []) (μr := _) (φ' := [numF (psum L) A]) (res_cell (vs := [_, _]) rfl rfl m1 tyi_100 rfl) (List.Perm.refl _) (AllIn.sub (And.intro (.head _) trivial)) ?_
  exact ⟨(A, k), hk, rfl, rfl, rfl⟩
end Go.Proofs.Ytbanlhlggkdanaa
namespace Go.Proofs.Ytbanlhlggkdanaa
open Go.RowKit
theorem ent_69 : Enter Try.prog 69 = true := by kernel_rfl
theorem zer_3 : zer Try.prog 3 = some (.int .i64 0) := by kernel_rfl
def Inc (a1 a2 e1 e2 c1 c2 d1 d2 : Int) : Int := inc (a1 - d1) (a2 - d2) (e1 - d1) (e2 - d2) (c1 - d1) (c2 - d2)
theorem sq_d {x y : Int} (hx : T62 x) (hy : T62 y) : dl (x * x + y * y) ≤ 5 := Nat.le_trans (dl_add (dl_r128 (mul_r62 hx hx)) (dl_r128 (mul_r62 hy hy))) (by decide)
theorem term_d {x y a e c d : Int} (hx : T62 x) (hy : T62 y) (ha : T62 a) (he : T62 e) (hc : T62 c) (hd : T62 d) : dl ((x * x + y * y) * det a e c d) ≤ 1000 := Nat.le_trans (dl_mul (sq_d hx hy) (dl_r128 (det_r ha he hc hd))) (by decide)
theorem psum3 {x1 x2 d1 y1 y2 d2 z1 z2 d3 : Int} {A B C : Option Addr} {k l m : Nat} : psum [((x1 + x2) * d1, A, k), ((y1 + y2) * d2, B, l), ((z1 + z2) * d3, C, m)] = d1 * (x1 + x2) + d2 * (y1 + y2) + d3 * (z1 + z2) := by
 simp only [psum]
 rw [Int.mul_comm d1, Int.mul_comm d2, Int.mul_comm d3]; omega
set_option maxRecDepth 100000 in
set_option maxHeartbeats 8000000 in
theorem circle_c {a1 a2 e1 e2 c1 c2 d1 d2 : Int} (ha : P2 a1 a2) (he : P2 e1 e2) (hc : P2 c1 c2) (hd : P2 d1 d2) : Tri Try.prog 69 [ptv a1 a2, ptv e1 e2, ptv c1 c2, ptv d1 d2] [] [] (Ret0 (.int .i64 (sgn (Inc a1 a2 e1 e2 c1 c2 d1 d2)))) := by
 refine Tri_of (N := 98) Try.func69 rfl ent_69 rfl rfl ?_
 intro w0 S0 T0
 show CJ _ _ _ [(0, _), (1, _), (2, _), (3, _)] _ _
 have ta1 := ha.1.d hd.1
 have ta2 := ha.2.d hd.2
 have te1 := he.1.d hd.1
 have te2 := he.2.d hd.2
 have tc1 := hc.1.d hd.1
 have tc2 := hc.2.d hd.2
 refine CJ_seq ?_
 refine CJ_reg ?_
 refine LJ_box (cs := #[_, _]) rfl rfl rfl rfl ?_
 intro b1
 refine LJ_box (cs := #[_, _]) rfl rfl rfl rfl ?_
 intro b2
 refine LJ_box (cs := #[_, _]) rfl rfl rfl rfl ?_
 intro b3
 refine LJ_box (cs := #[_, _]) rfl rfl rfl rfl ?_
 intro b4
 refine LJ_y rfl rfl (YJ_assign rfl) ?_
 refine LJ_nil ?_
 refine QJ_then ?_
 refine CJ_seq ?_
 refine CJ_regD mix (by kernel_rfl) (fun _ _ _ _ _ h => h) _ _ (fun _ h => h) (fun _ h => h) ?_
 refine AJ_y 0 rfl (by kernel_rfl) (by kernel_rfl) rfl rfl (YJ_fieldOwn rfl fld_23_0 rfl) ?_
 refine AJ_y 1 rfl (by kernel_rfl) (by kernel_rfl) rfl rfl (YJ_loadL rfl tyi_3 m3 rfl) ?_
 refine AJ_y 2 rfl (by kernel_rfl) (by kernel_rfl) rfl rfl (YJ_fieldOwn rfl fld_23_0 rfl) ?_
 refine AJ_y 3 rfl (by kernel_rfl) (by kernel_rfl) rfl rfl (YJ_loadL rfl tyi_3 m0 rfl) ?_
 refine AJ_y 4 rfl (by kernel_rfl) (by kernel_rfl) rfl rfl (YJ_bin rfl rfl (iop_sub (ha.1.i hd.1))) ?_
 refine AJ_y 5 rfl (by kernel_rfl) (by kernel_rfl) rfl rfl (YJ_fieldOwn rfl fld_23_1 rfl) ?_
 refine AJ_y 6 rfl (by kernel_rfl) (by kernel_rfl) rfl rfl (YJ_loadL rfl tyi_3 m3 rfl) ?_
 refine AJ_y 7 rfl (by kernel_rfl) (by kernel_rfl) rfl rfl (YJ_fieldOwn rfl fld_23_1 rfl) ?_
 refine AJ_y 8 rfl (by kernel_rfl) (by kernel_rfl) rfl rfl (YJ_loadL rfl tyi_3 m0 rfl) ?_
 refine AJ_y 9 rfl (by kernel_rfl) (by kernel_rfl) rfl rfl (YJ_bin rfl rfl (iop_sub (ha.2.i hd.2))) ?_
 refine AJ_y 10 rfl (by kernel_rfl) (by kernel_rfl) rfl rfl (YJ_fieldOwn rfl fld_23_0 rfl) ?_
 refine AJ_y 11 rfl (by kernel_rfl) (by kernel_rfl) rfl rfl (YJ_loadL rfl tyi_3 m2 rfl) ?_
 refine AJ_y 12 rfl (by kernel_rfl) (by kernel_rfl) rfl rfl (YJ_fieldOwn rfl fld_23_0 rfl) ?_
 refine AJ_y 13 rfl (by kernel_rfl) (by kernel_rfl) rfl rfl (YJ_loadL rfl tyi_3 m0 rfl) ?_
 refine AJ_y 14 rfl (by kernel_rfl) (by kernel_rfl) rfl rfl (YJ_bin rfl rfl (iop_sub (he.1.i hd.1))) ?_
 refine AJ_y 15 rfl (by kernel_rfl) (by kernel_rfl) rfl rfl (YJ_fieldOwn rfl fld_23_1 rfl) ?_
 refine AJ_y 16 rfl (by kernel_rfl) (by kernel_rfl) rfl rfl (YJ_loadL rfl tyi_3 m2 rfl) ?_
 refine AJ_y 17 rfl (by kernel_rfl) (by kernel_rfl) rfl rfl (YJ_fieldOwn rfl fld_23_1 rfl) ?_
 refine AJ_y 18 rfl (by kernel_rfl) (by kernel_rfl) rfl rfl (YJ_loadL rfl tyi_3 m0 rfl) ?_
 refine AJ_y 19 rfl (by kernel_rfl) (by kernel_rfl) rfl rfl (YJ_bin rfl rfl (iop_sub (he.2.i hd.2))) ?_
 refine AJ_y 20 rfl (by kernel_rfl) (by kernel_rfl) rfl rfl (YJ_fieldOwn rfl fld_23_0 rfl) ?_
 refine AJ_y 21 rfl (by kernel_rfl) (by kernel_rfl) rfl rfl (YJ_loadL rfl tyi_3 m1 rfl) ?_
 refine AJ_y 22 rfl (by kernel_rfl) (by kernel_rfl) rfl rfl (YJ_fieldOwn rfl fld_23_0 rfl) ?_
 refine AJ_y 23 rfl (by kernel_rfl) (by kernel_rfl) rfl rfl (YJ_loadL rfl tyi_3 m0 rfl) ?_
 refine AJ_y 24 rfl (by kernel_rfl) (by kernel_rfl) rfl rfl (YJ_bin rfl rfl (iop_sub (hc.1.i hd.1))) ?_
 refine AJ_y 25 rfl (by kernel_rfl) (by kernel_rfl) rfl rfl (YJ_fieldOwn rfl fld_23_1 rfl) ?_
 refine AJ_y 26 rfl (by kernel_rfl) (by kernel_rfl) rfl rfl (YJ_loadL rfl tyi_3 m1 rfl) ?_
 refine AJ_y 27 rfl (by kernel_rfl) (by kernel_rfl) rfl rfl (YJ_fieldOwn rfl fld_23_1 rfl) ?_
 refine AJ_y 28 rfl (by kernel_rfl) (by kernel_rfl) rfl rfl (YJ_loadL rfl tyi_3 m0 rfl) ?_
 refine AJ_y 29 rfl (by kernel_rfl) (by kernel_rfl) rfl rfl (YJ_bin rfl rfl (iop_sub (hc.2.i hd.2))) ?_
 refine AJ_y 30 rfl (by kernel_rfl) (by kernel_rfl) rfl rfl (YJ_assign rfl) ?_
 refine AJ_y 31 rfl (by kernel_rfl) (by kernel_rfl) rfl rfl (YJ_assign rfl) ?_
 refine AJ_y 32 rfl (by kernel_rfl) (by kernel_rfl) rfl rfl (YJ_assign rfl) ?_
 refine AJ_y 33 rfl (by kernel_rfl) (by kernel_rfl) rfl rfl (YJ_assign rfl) ?_
 refine AJ_y 34 rfl (by kernel_rfl) (by kernel_rfl) rfl rfl (YJ_assign rfl) ?_
 refine AJ_y 35 rfl (by kernel_rfl) (by kernel_rfl) rfl rfl (YJ_assign rfl) ?_
 refine AJ_done (by kernel_rfl) ?_
 refine QJ_then ?_
 refine CJ_seq ?_
 refine CJ_seq ?_
 refine CJ_reg ?_
 refine LJ_y rfl rfl (YJ_move rfl) ?_
 refine LJ_y rfl rfl (YJ_move rfl) ?_
 refine LJ_y rfl rfl (YJ_move rfl) ?_
 refine LJ_y rfl rfl (YJ_move rfl) ?_
 refine LJ_y rfl rfl (YJ_move rfl) ?_
 refine LJ_y rfl rfl (YJ_move rfl) ?_
 refine LJ_buildSlice (cs := [_, _, _, _, _, _]) rfl rfl elt_55 zer_3 rfl (by decide) (pvs := [(_, _), (_, _), (_, _), (_, _), (_, _), (_, _)]) rfl rfl rfl ?_
 intro b5
 refine LJ_freeze ?_
 refine LJ_addF (r' := sliceR 1 (some ⟨b5, 0, none⟩) 6 (Iv [a1 - d1, a2 - d2, e1 - d1, e2 - d2, c1 - d1, c2 - d2])) (.head _) (fun w S h => cellsR_slice (n := 6) rfl w S h) ?_
 refine LJ_call0 rfl rfl rfl rfl rfl (small_c (l := [a1 - d1, a2 - d2, e1 - d1, e2 - d2, c1 - d1, c2 - d2]) rfl (by simp)) (AllIn.sub (And.intro m0 trivial)) ?_
 refine LJ_nil ?_
 refine QJ_then ?_
 refine CJ_cond rfl (fun h54 => ?_) (fun h54 => ?_)
 ·skip
  obtain ⟨g1, g2, g3, g4, g5, g6⟩ := all6 h54
  refine CJ_seq ?_
  refine CJ_reg ?_
  refine LJ_y rfl rfl (YJ_move rfl) ?_
  refine LJ_y rfl rfl (YJ_move rfl) ?_
  refine LJ_y rfl rfl (YJ_move rfl) ?_
  refine LJ_y rfl rfl (YJ_move rfl) ?_
  refine LJ_y rfl rfl (YJ_move rfl) ?_
  refine LJ_y rfl rfl (YJ_move rfl) ?_
  refine LJ_call0 rfl rfl rfl rfl rfl (quick_c g1 g2 g3 g4 g5 g6) (AllIn.sub (by first | exact trivial | exact And.intro (by repeat first | exact .head _ | apply List.Mem.tail) trivial | exact And.intro (by repeat first | exact .head _ | apply List.Mem.tail) (And.intro (by repeat first | exact .head _ | apply List.Mem.tail) trivial))) ?_
  refine LJ_y rfl rfl (YJ_assign rfl) ?_
  refine LJ_nil ?_
  refine QJ_then ?_
  refine CJ_ret ?_
  refine QJ_then_ret ?_
  refine QJ_fin (.inl rfl) (μ' := []) (μr := _) (φ' := []) (res_tmp rfl rfl) (List.Perm.refl _) (fun _ h => nomatch h) ?_
  exact ⟨rfl, rfl, rfl⟩
 ·skip
  refine CJ_skip ?_
  refine QJ_then ?_
  refine CJ_seq ?_
  refine CJ_reg ?_
  refine LJ_y rfl rfl (YJ_assign rfl) ?_
  refine LJ_nil ?_
  refine QJ_then ?_
  refine CJ_seq ?_
  refine CJ_reg ?_
  refine LJ_y rfl rfl (YJ_assign rfl) ?_
  refine LJ_nil ?_
  refine QJ_then ?_
  refine CJ_seq ?_
  refine CJ_reg ?_
  refine LJ_y rfl rfl (YJ_move rfl) ?_
  refine LJ_y rfl rfl (YJ_move rfl) ?_
  refine LJ_y rfl rfl (YJ_move rfl) ?_
  refine LJ_callX rfl rfl rfl rfl rfl (csq_c ta1 ta2) (AllIn.sub (by first | exact trivial | exact And.intro (by repeat first | exact .head _ | apply List.Mem.tail) trivial | exact And.intro (by repeat first | exact .head _ | apply List.Mem.tail) (And.intro (by repeat first | exact .head _ | apply List.Mem.tail) trivial))) ?_
  rintro ⟨A1, k1⟩ hcap1
  dsimp only at hcap1
  dsimp only [List.cons_append, List.nil_append]
  refine LJ_y rfl rfl (YJ_move rfl) ?_
  refine LJ_y rfl rfl (YJ_move rfl) ?_
  refine LJ_y rfl rfl (YJ_move rfl) ?_
  refine LJ_y rfl rfl (YJ_move rfl) ?_
  refine LJ_y rfl rfl (YJ_move rfl) ?_
  refine LJ_callX rfl rfl rfl rfl rfl (cdet_c te1 te2 tc1 tc2) (AllIn.sub (by first | exact trivial | exact And.intro (by repeat first | exact .head _ | apply List.Mem.tail) trivial | exact And.intro (by repeat first | exact .head _ | apply List.Mem.tail) (And.intro (by repeat first | exact .head _ | apply List.Mem.tail) trivial))) ?_
  rintro ⟨A2, k2⟩ hcap2
  dsimp only at hcap2
  dsimp only [List.cons_append, List.nil_append]
  refine LJ_callX rfl rfl rfl rfl rfl (nmul_c (Nat.le_trans (sq_d ta1 ta2) (by decide)) (dl_big (det_r te1 te2 tc1 tc2)) hcap1 hcap2) (AllIn.sub (And.intro m1 (And.intro m0 trivial))) ?_
  rintro ⟨A3, k3⟩ hcap3
  dsimp only at hcap3
  dsimp only [List.cons_append, List.nil_append]
  refine LJ_y rfl rfl (YJ_move rfl) ?_
  refine LJ_y rfl rfl (YJ_move rfl) ?_
  refine LJ_y rfl rfl (YJ_move rfl) ?_
  refine LJ_callX rfl rfl rfl rfl rfl (csq_c te1 te2) (AllIn.sub (by first | exact trivial | exact And.intro (by repeat first | exact .head _ | apply List.Mem.tail) trivial | exact And.intro (by repeat first | exact .head _ | apply List.Mem.tail) (And.intro (by repeat first | exact .head _ | apply List.Mem.tail) trivial))) ?_
  rintro ⟨A4, k4⟩ hcap4
  dsimp only at hcap4
  dsimp only [List.cons_append, List.nil_append]
  refine LJ_y rfl rfl (YJ_move rfl) ?_
  refine LJ_y rfl rfl (YJ_move rfl) ?_
  refine LJ_y rfl rfl (YJ_move rfl) ?_
  refine LJ_y rfl rfl (YJ_move rfl) ?_
  refine LJ_y rfl rfl (YJ_move rfl) ?_
  refine LJ_callX rfl rfl rfl rfl rfl (cdet_c tc1 tc2 ta1 ta2) (AllIn.sub (by first | exact trivial | exact And.intro (by repeat first | exact .head _ | apply List.Mem.tail) trivial | exact And.intro (by repeat first | exact .head _ | apply List.Mem.tail) (And.intro (by repeat first | exact .head _ | apply List.Mem.tail) trivial))) ?_
  rintro ⟨A5, k5⟩ hcap5
  dsimp only at hcap5
  dsimp only [List.cons_append, List.nil_append]
  refine LJ_callX rfl rfl rfl rfl rfl (nmul_c (Nat.le_trans (sq_d te1 te2) (by decide)) (dl_big (det_r tc1 tc2 ta1 ta2)) hcap4 hcap5) (AllIn.sub (And.intro m1 (And.intro m0 trivial))) ?_
  rintro ⟨A6, k6⟩ hcap6
  dsimp only at hcap6
  dsimp only [List.cons_append, List.nil_append]
  refine LJ_y rfl rfl (YJ_move rfl) ?_
  refine LJ_y rfl rfl (YJ_move rfl) ?_
  refine LJ_y rfl rfl (YJ_move rfl) ?_
  refine LJ_callX rfl rfl rfl rfl rfl (csq_c tc1 tc2) (AllIn.sub (by first | exact trivial | exact And.intro (by repeat first | exact .head _ | apply List.Mem.tail) trivial | exact And.intro (by repeat first | exact .head _ | apply List.Mem.tail) (And.intro (by repeat first | exact .head _ | apply List.Mem.tail) trivial))) ?_
  rintro ⟨A7, k7⟩ hcap7
  dsimp only at hcap7
  dsimp only [List.cons_append, List.nil_append]
  refine LJ_y rfl rfl (YJ_move rfl) ?_
  refine LJ_y rfl rfl (YJ_move rfl) ?_
  refine LJ_y rfl rfl (YJ_move rfl) ?_
  refine LJ_y rfl rfl (YJ_move rfl) ?_
  refine LJ_y rfl rfl (YJ_move rfl) ?_
  refine LJ_callX rfl rfl rfl rfl rfl (cdet_c ta1 ta2 te1 te2) (AllIn.sub (by first | exact trivial | exact And.intro (by repeat first | exact .head _ | apply List.Mem.tail) trivial | exact And.intro (by repeat first | exact .head _ | apply List.Mem.tail) (And.intro (by repeat first | exact .head _ | apply List.Mem.tail) trivial))) ?_
  rintro ⟨A8, k8⟩ hcap8
  dsimp only at hcap8
  dsimp only [List.cons_append, List.nil_append]
  refine LJ_callX rfl rfl rfl rfl rfl (nmul_c (Nat.le_trans (sq_d tc1 tc2) (by decide)) (dl_big (det_r ta1 ta2 te1 te2)) hcap7 hcap8) (AllIn.sub (And.intro m1 (And.intro m0 trivial))) ?_
  rintro ⟨A9, k9⟩ hcap9
  dsimp only at hcap9
  dsimp only [List.cons_append, List.nil_append]
  refine LJ_buildSliceN (vs := [_, _, _]) (cs := [_, _, _, _, _, _]) rfl rfl elt_169 zer_100 (by decide) (by decide) rfl rfl rfl rfl rfl ?_
  intro b6
  refine LJ_freeze ?_
  refine LJ_addF (r' := sliceR 2 (some ⟨b6, 0, none⟩) 3 (numCells [(((a1 - d1) * (a1 - d1) + (a2 - d2) * (a2 - d2)) * det (e1 - d1) (e2 - d2) (c1 - d1) (c2 - d2), A3, k3), (((e1 - d1) * (e1 - d1) + (e2 - d2) * (e2 - d2)) * det (c1 - d1) (c2 - d2) (a1 - d1) (a2 - d2), A6, k6), (((c1 - d1) * (c1 - d1) + (c2 - d2) * (c2 - d2)) * det (a1 - d1) (a2 - d2) (e1 - d1) (e2 - d2), A9, k9)])) (.head _) (fun w S h => cellsR_slice (n := 3) rfl w S h) ?_
  have hL : ∀ t, t ∈ ([(((a1 - d1) * (a1 - d1) + (a2 - d2) * (a2 - d2)) * det (e1 - d1) (e2 - d2) (c1 - d1) (c2 - d2), A3, k3), (((e1 - d1) * (e1 - d1) + (e2 - d2) * (e2 - d2)) * det (c1 - d1) (c2 - d2) (a1 - d1) (a2 - d2), A6, k6), (((c1 - d1) * (c1 - d1) + (c2 - d2) * (c2 - d2)) * det (a1 - d1) (a2 - d2) (e1 - d1) (e2 - d2), A9, k9)] : List NumT) → dl t.1 ≤ 1000 ∧ dl t.1 ≤ t.2.2 := by
   intro t ht
   rcases List.mem_cons.1 ht with rfl | ht
   ·exact ⟨term_d ta1 ta2 te1 te2 tc1 tc2, hcap3⟩
   rcases List.mem_cons.1 ht with rfl | ht
   ·exact ⟨term_d te1 te2 tc1 tc2 ta1 ta2, hcap6⟩
   rcases List.mem_cons.1 ht with rfl | ht
   ·exact ⟨term_d tc1 tc2 ta1 ta2 te1 te2, hcap9⟩
   exact absurd ht (List.not_mem_nil)
  have hdl : dl (det (e1 - d1) (e2 - d2) (c1 - d1) (c2 - d2) * ((a1 - d1) * (a1 - d1) + (a2 - d2) * (a2 - d2)) + det (c1 - d1) (c2 - d2) (a1 - d1) (a2 - d2) * ((e1 - d1) * (e1 - d1) + (e2 - d2) * (e2 - d2)) + det (a1 - d1) (a2 - d2) (e1 - d1) (e2 - d2) * ((c1 - d1) * (c1 - d1) + (c2 - d2) * (c2 - d2))) ≤ 100000 := by
   rw [← psum3 (A := none) (B := none) (C := none) (k := 0) (l := 0) (m := 0)]
   simp only [psum]
   exact Nat.le_trans (dl_add (term_d ta1 ta2 te1 te2 tc1 tc2) (dl_add (term_d te1 te2 tc1 tc2 ta1 ta2) (dl_add (term_d tc1 tc2 ta1 ta2 te1 te2) (Nat.le_of_eq dl_zero)))) (by decide)
  refine LJ_callX rfl rfl rfl rfl rfl (nsum_c (L := [(((a1 - d1) * (a1 - d1) + (a2 - d2) * (a2 - d2)) * det (e1 - d1) (e2 - d2) (c1 - d1) (c2 - d2), A3, k3), (((e1 - d1) * (e1 - d1) + (e2 - d2) * (e2 - d2)) * det (c1 - d1) (c2 - d2) (a1 - d1) (a2 - d2), A6, k6), (((c1 - d1) * (c1 - d1) + (c2 - d2) * (c2 - d2)) * det (a1 - d1) (a2 - d2) (e1 - d1) (e2 - d2), A9, k9)]) rfl (by simp) hL) (AllIn.sub (And.intro m0 (And.intro m8 (And.intro m5 (And.intro m2 trivial))))) ?_
  rw [psum3]
  rintro ⟨A10, k10⟩ hcap10
  dsimp only at hcap10
  dsimp only [List.cons_append, List.nil_append]
  refine LJ_call0 rfl rfl rfl rfl rfl (nsign_c hdl hcap10) (AllIn.sub (And.intro m0 trivial)) ?_
  refine LJ_y rfl rfl (YJ_assign rfl) ?_
  refine LJ_nil ?_
  refine QJ_then ?_
  refine CJ_ret ?_
  refine QJ_fin (.inl rfl) (μ' := []) (μr := _) (φ' := []) (res_tmp rfl rfl) (List.Perm.refl _) (fun _ h => nomatch h) ?_
  exact ⟨rfl, rfl, rfl⟩
end Go.Proofs.Ytbanlhlggkdanaa
namespace Go.Proofs.Ytbanlhlggkdanaa
open Go.RowKit
theorem ent_85 : Enter Try.prog 85 = true := by kernel_rfl
theorem ent_55 : Enter Try.prog 55 = true := by kernel_rfl
theorem Tm.i64 {x : Int} (h : Tm x) : I64 x := by unfold Tm at h; unfold I64; omega
def OnL (p1 p2 a1 a2 e1 e2 : Int) : Prop := sgn (A2 a1 a2 e1 e2 p1 p2) = 0 ∧ min a1 e1 ≤ p1 ∧ p1 ≤ max a1 e1 ∧ min a2 e2 ≤ p2 ∧ p2 ≤ max a2 e2
instance (p1 p2 a1 a2 e1 e2 : Int) : Decidable (OnL p1 p2 a1 a2 e1 e2) := inferInstanceAs (Decidable (_ ∧ _))
def Crs (a1 a2 e1 e2 c1 c2 d1 d2 : Int) : Prop := sgn (A2 a1 a2 e1 e2 c1 c2) * sgn (A2 a1 a2 e1 e2 d1 d2) < 0 ∧ sgn (A2 c1 c2 d1 d2 a1 a2) * sgn (A2 c1 c2 d1 d2 e1 e2) < 0
instance (a1 a2 e1 e2 c1 c2 d1 d2 : Int) : Decidable (Crs a1 a2 e1 e2 c1 c2 d1 d2) := inferInstanceAs (Decidable (_ ∧ _))
def Mts (a1 a2 e1 e2 c1 c2 d1 d2 : Int) : Prop := Crs a1 a2 e1 e2 c1 c2 d1 d2 ∨ OnL a1 a2 c1 c2 d1 d2 ∨ OnL e1 e2 c1 c2 d1 d2 ∨ OnL c1 c2 a1 a2 e1 e2 ∨ OnL d1 d2 a1 a2 e1 e2
instance (a1 a2 e1 e2 c1 c2 d1 d2 : Int) : Decidable (Mts a1 a2 e1 e2 c1 c2 d1 d2) := inferInstanceAs (Decidable (_ ∨ _))
def Btw (p1 p2 a1 a2 e1 e2 : Int) : Prop := ¬ (p1 = a1 ∧ p2 = a2) ∧ ¬ (p1 = e1 ∧ p2 = e2) ∧ OnL p1 p2 a1 a2 e1 e2
instance (p1 p2 a1 a2 e1 e2 : Int) : Decidable (Btw p1 p2 a1 a2 e1 e2) := inferInstanceAs (Decidable (_ ∧ _))
theorem eqs_neq_23 (a b c d : Int) (x y : Operand) (w : World) :
  (do eqGuard .neq 23 x y (.agg #[.int .i64 a, .int .i64 b]) (.agg #[.int .i64 c, .int .i64 d]); binOp .neq 23 (.agg #[.int .i64 a, .int .i64 b]) (.agg #[.int .i64 c, .int .i64 d]) : Sem Value).run Try.prog w = .ok (.bool (!(decide (a = c) && decide (b = d)))) w := by
 have hf : Try.prog.underlying 23 = some (.struct (Try.prog.fieldsOf 23)) := by kernel_rfl
 simp only [Sem.run_bind]
 rw [run_eqGuard_agg w .neq 23 x y _ _ (by kernel_rfl)]
 simp only [Result.andThen_ok, run_neq_struct]
 rw [show (10000 : Nat) = 9999 + 1 from rfl, run_equalIn_agg w 9999 23 _ _ hf (by kernel_rfl)]
 simp [go_sem]
 by_cases h1 : a = c <;> by_cases h2 : b = d <;> simp [h1, h2]
theorem eqs_eql_23 (a b c d : Int) (x y : Operand) (w : World) :
  (do eqGuard .eql 23 x y (.agg #[.int .i64 a, .int .i64 b]) (.agg #[.int .i64 c, .int .i64 d]); binOp .eql 23 (.agg #[.int .i64 a, .int .i64 b]) (.agg #[.int .i64 c, .int .i64 d]) : Sem Value).run Try.prog w = .ok (.bool (decide (a = c) && decide (b = d))) w := by
 have hf : Try.prog.underlying 23 = some (.struct (Try.prog.fieldsOf 23)) := by kernel_rfl
 simp only [Sem.run_bind]
 rw [run_eqGuard_agg w .eql 23 x y _ _ (by kernel_rfl)]
 simp only [Result.andThen_ok, run_eql_struct]
 rw [show (10000 : Nat) = 9999 + 1 from rfl, run_equalIn_agg w 9999 23 _ _ hf (by kernel_rfl)]
 simp [go_sem]
 by_cases h1 : a = c <;> by_cases h2 : b = d <;> simp [h1, h2]
set_option maxRecDepth 100000 in
set_option maxHeartbeats 4000000 in
theorem on_c {p1 p2 a1 a2 e1 e2 : Int} (hp : P2 p1 p2) (ha : P2 a1 a2) (he : P2 e1 e2) : Tri Try.prog 85 [ptv p1 p2, ptv a1 a2, ptv e1 e2] [] [] (Ret0 (.bool (decide (OnL p1 p2 a1 a2 e1 e2)))) := by
 refine Tri_of (N := 52) Try.func85 rfl ent_85 rfl rfl ?_
 intro w0 S0 T0
 show CJ _ _ _ [(0, _), (1, _), (2, _)] _ _
 refine CJ_seq ?_
 refine CJ_reg ?_
 refine LJ_box (cs := #[_, _]) rfl rfl rfl rfl ?_
 intro b1
 refine LJ_box (cs := #[_, _]) rfl rfl rfl rfl ?_
 intro b2
 refine LJ_box (cs := #[_, _]) rfl rfl rfl rfl ?_
 intro b3
 refine LJ_y rfl rfl (YJ_assign rfl) ?_
 refine LJ_nil ?_
 refine QJ_then ?_
 refine CJ_seq ?_
 refine CJ_reg ?_
 refine LJ_y rfl rfl (YJ_loadN (vs := [_, _]) rfl tyi_23 m1 rfl rfl) ?_
 refine LJ_y rfl rfl (YJ_loadN (vs := [_, _]) rfl tyi_23 m0 rfl rfl) ?_
 refine LJ_y rfl rfl (YJ_loadN (vs := [_, _]) rfl tyi_23 m2 rfl rfl) ?_
 refine LJ_call0 rfl rfl rfl rfl rfl (orient_c ha he hp) (AllIn.sub (by first | exact trivial | exact And.intro (by repeat first | exact .head _ | apply List.Mem.tail) trivial | exact And.intro (by repeat first | exact .head _ | apply List.Mem.tail) (And.intro (by repeat first | exact .head _ | apply List.Mem.tail) trivial))) ?_
 refine LJ_y rfl rfl (YJ_bin rfl rfl rfl) ?_
 refine LJ_y rfl rfl (YJ_move rfl) ?_
 refine LJ_boolC (fun h12 => ?_) (fun h12 => ?_)
 ·simp only [decide_eq_true_eq] at h12
  refine LJ_y rfl rfl (YJ_fieldOwn rfl fld_23_0 rfl) ?_
  refine LJ_y rfl rfl (YJ_loadL rfl tyi_3 m1 rfl) ?_
  refine LJ_y rfl rfl (YJ_fieldOwn rfl fld_23_0 rfl) ?_
  refine LJ_y rfl rfl (YJ_loadL rfl tyi_3 m0 rfl) ?_
  refine LJ_y rfl rfl (YJ_min2 rfl rfl) ?_
  refine LJ_y rfl rfl (YJ_fieldOwn rfl fld_23_0 rfl) ?_
  refine LJ_y rfl rfl (YJ_loadL rfl tyi_3 m2 rfl) ?_
  refine LJ_y rfl rfl (YJ_bin rfl rfl rfl) ?_
  refine LJ_y rfl rfl (YJ_pickT rfl rfl) ?_
  refine LJ_y rfl rfl (YJ_move rfl) ?_
  refine LJ_boolC (fun h22 => ?_) (fun h22 => ?_)
  ·simp only [decide_eq_true_eq] at h22
   refine LJ_y rfl rfl (YJ_fieldOwn rfl fld_23_0 rfl) ?_
   refine LJ_y rfl rfl (YJ_loadL rfl tyi_3 m2 rfl) ?_
   refine LJ_y rfl rfl (YJ_fieldOwn rfl fld_23_0 rfl) ?_
   refine LJ_y rfl rfl (YJ_loadL rfl tyi_3 m1 rfl) ?_
   refine LJ_y rfl rfl (YJ_fieldOwn rfl fld_23_0 rfl) ?_
   refine LJ_y rfl rfl (YJ_loadL rfl tyi_3 m0 rfl) ?_
   refine LJ_y rfl rfl (YJ_max2 rfl rfl) ?_
   refine LJ_y rfl rfl (YJ_bin rfl rfl rfl) ?_
   refine LJ_y rfl rfl (YJ_pickT rfl rfl) ?_
   refine LJ_y rfl rfl (YJ_move rfl) ?_
   refine LJ_boolC (fun h32 => ?_) (fun h32 => ?_)
   ·simp only [decide_eq_true_eq] at h32
    refine LJ_y rfl rfl (YJ_fieldOwn rfl fld_23_1 rfl) ?_
    refine LJ_y rfl rfl (YJ_loadL rfl tyi_3 m1 rfl) ?_
    refine LJ_y rfl rfl (YJ_fieldOwn rfl fld_23_1 rfl) ?_
    refine LJ_y rfl rfl (YJ_loadL rfl tyi_3 m0 rfl) ?_
    refine LJ_y rfl rfl (YJ_min2 rfl rfl) ?_
    refine LJ_y rfl rfl (YJ_fieldOwn rfl fld_23_1 rfl) ?_
    refine LJ_y rfl rfl (YJ_loadL rfl tyi_3 m2 rfl) ?_
    refine LJ_y rfl rfl (YJ_bin rfl rfl rfl) ?_
    refine LJ_y rfl rfl (YJ_pickT rfl rfl) ?_
    refine LJ_y rfl rfl (YJ_move rfl) ?_
    refine LJ_boolC (fun h42 => ?_) (fun h42 => ?_)
    ·simp only [decide_eq_true_eq] at h42
     refine LJ_y rfl rfl (YJ_fieldOwn rfl fld_23_1 rfl) ?_
     refine LJ_y rfl rfl (YJ_loadL rfl tyi_3 m2 rfl) ?_
     refine LJ_y rfl rfl (YJ_fieldOwn rfl fld_23_1 rfl) ?_
     refine LJ_y rfl rfl (YJ_loadL rfl tyi_3 m1 rfl) ?_
     refine LJ_y rfl rfl (YJ_fieldOwn rfl fld_23_1 rfl) ?_
     refine LJ_y rfl rfl (YJ_loadL rfl tyi_3 m0 rfl) ?_
     refine LJ_y rfl rfl (YJ_max2 rfl rfl) ?_
     refine LJ_y rfl rfl (YJ_bin rfl rfl rfl) ?_
     refine LJ_y rfl rfl (YJ_pickT rfl rfl) ?_
     refine LJ_y rfl rfl (YJ_assign rfl) ?_
     refine LJ_nil ?_
     refine QJ_then ?_
     refine CJ_ret ?_
     refine QJ_fin (.inl rfl) (μ' := []) (μr := _) (φ' := []) (res_tmp rfl rfl) (List.Perm.refl _) (fun _ h => nomatch h) ?_
     exact ⟨congrArg Value.bool (by first | (rw [decide_eq_decide]; unfold OnL; omega) | (symm; rw [decide_eq_false_iff_not]; unfold OnL; omega)), rfl, rfl⟩
    ·simp only [decide_eq_false_iff_not] at h42
     refine LJ_skip rfl rfl ?_
     refine LJ_skip rfl rfl ?_
     refine LJ_skip rfl rfl ?_
     refine LJ_skip rfl rfl ?_
     refine LJ_skip rfl rfl ?_
     refine LJ_skip rfl rfl ?_
     refine LJ_skip rfl rfl ?_
     refine LJ_skip rfl rfl ?_
     refine LJ_y rfl rfl (YJ_pickF rfl rfl) ?_
     refine LJ_y rfl rfl (YJ_assign rfl) ?_
     refine LJ_nil ?_
     refine QJ_then ?_
     refine CJ_ret ?_
     refine QJ_fin (.inl rfl) (μ' := []) (μr := _) (φ' := []) (res_tmp rfl rfl) (List.Perm.refl _) (fun _ h => nomatch h) ?_
     exact ⟨congrArg Value.bool (by first | (rw [decide_eq_decide]; unfold OnL; omega) | (symm; rw [decide_eq_false_iff_not]; unfold OnL; omega)), rfl, rfl⟩
   ·simp only [decide_eq_false_iff_not] at h32
    refine LJ_skip rfl rfl ?_
    refine LJ_skip rfl rfl ?_
    refine LJ_skip rfl rfl ?_
    refine LJ_skip rfl rfl ?_
    refine LJ_skip rfl rfl ?_
    refine LJ_skip rfl rfl ?_
    refine LJ_skip rfl rfl ?_
    refine LJ_skip rfl rfl ?_
    refine LJ_y rfl rfl (YJ_pickF rfl rfl) ?_
    refine LJ_y rfl rfl (YJ_move rfl) ?_
    refine LJ_skip rfl rfl ?_
    refine LJ_skip rfl rfl ?_
    refine LJ_skip rfl rfl ?_
    refine LJ_skip rfl rfl ?_
    refine LJ_skip rfl rfl ?_
    refine LJ_skip rfl rfl ?_
    refine LJ_skip rfl rfl ?_
    refine LJ_skip rfl rfl ?_
    refine LJ_y rfl rfl (YJ_pickF rfl rfl) ?_
    refine LJ_y rfl rfl (YJ_assign rfl) ?_
    refine LJ_nil ?_
    refine QJ_then ?_
    refine CJ_ret ?_
    refine QJ_fin (.inl rfl) (μ' := []) (μr := _) (φ' := []) (res_tmp rfl rfl) (List.Perm.refl _) (fun _ h => nomatch h) ?_
    exact ⟨congrArg Value.bool (by first | (rw [decide_eq_decide]; unfold OnL; omega) | (symm; rw [decide_eq_false_iff_not]; unfold OnL; omega)), rfl, rfl⟩
  ·simp only [decide_eq_false_iff_not] at h22
   refine LJ_skip rfl rfl ?_
   refine LJ_skip rfl rfl ?_
   refine LJ_skip rfl rfl ?_
   refine LJ_skip rfl rfl ?_
   refine LJ_skip rfl rfl ?_
   refine LJ_skip rfl rfl ?_
   refine LJ_skip rfl rfl ?_
   refine LJ_skip rfl rfl ?_
   refine LJ_y rfl rfl (YJ_pickF rfl rfl) ?_
   refine LJ_y rfl rfl (YJ_move rfl) ?_
   refine LJ_skip rfl rfl ?_
   refine LJ_skip rfl rfl ?_
   refine LJ_skip rfl rfl ?_
   refine LJ_skip rfl rfl ?_
   refine LJ_skip rfl rfl ?_
   refine LJ_skip rfl rfl ?_
   refine LJ_skip rfl rfl ?_
   refine LJ_skip rfl rfl ?_
   refine LJ_y rfl rfl (YJ_pickF rfl rfl) ?_
   refine LJ_y rfl rfl (YJ_move rfl) ?_
   refine LJ_skip rfl rfl ?_
   refine LJ_skip rfl rfl ?_
   refine LJ_skip rfl rfl ?_
   refine LJ_skip rfl rfl ?_
   refine LJ_skip rfl rfl ?_
   refine LJ_skip rfl rfl ?_
   refine LJ_skip rfl rfl ?_
   refine LJ_skip rfl rfl ?_
   refine LJ_y rfl rfl (YJ_pickF rfl rfl) ?_
   refine LJ_y rfl rfl (YJ_assign rfl) ?_
   refine LJ_nil ?_
   refine QJ_then ?_
   refine CJ_ret ?_
   refine QJ_fin (.inl rfl) (μ' := []) (μr := _) (φ' := []) (res_tmp rfl rfl) (List.Perm.refl _) (fun _ h => nomatch h) ?_
   exact ⟨congrArg Value.bool (by first | (rw [decide_eq_decide]; unfold OnL; omega) | (symm; rw [decide_eq_false_iff_not]; unfold OnL; omega)), rfl, rfl⟩
 ·simp only [decide_eq_false_iff_not] at h12
  refine LJ_skip rfl rfl ?_
  refine LJ_skip rfl rfl ?_
  refine LJ_skip rfl rfl ?_
  refine LJ_skip rfl rfl ?_
  refine LJ_skip rfl rfl ?_
  refine LJ_skip rfl rfl ?_
  refine LJ_skip rfl rfl ?_
  refine LJ_skip rfl rfl ?_
  refine LJ_y rfl rfl (YJ_pickF rfl rfl) ?_
  refine LJ_y rfl rfl (YJ_move rfl) ?_
  refine LJ_skip rfl rfl ?_
  refine LJ_skip rfl rfl ?_
  refine LJ_skip rfl rfl ?_
  refine LJ_skip rfl rfl ?_
  refine LJ_skip rfl rfl ?_
  refine LJ_skip rfl rfl ?_
  refine LJ_skip rfl rfl ?_
  refine LJ_skip rfl rfl ?_
  refine LJ_y rfl rfl (YJ_pickF rfl rfl) ?_
  refine LJ_y rfl rfl (YJ_move rfl) ?_
  refine LJ_skip rfl rfl ?_
  refine LJ_skip rfl rfl ?_
  refine LJ_skip rfl rfl ?_
  refine LJ_skip rfl rfl ?_
  refine LJ_skip rfl rfl ?_
  refine LJ_skip rfl rfl ?_
  refine LJ_skip rfl rfl ?_
  refine LJ_skip rfl rfl ?_
  refine LJ_y rfl rfl (YJ_pickF rfl rfl) ?_
  refine LJ_y rfl rfl (YJ_move rfl) ?_
  refine LJ_skip rfl rfl ?_
  refine LJ_skip rfl rfl ?_
  refine LJ_skip rfl rfl ?_
  refine LJ_skip rfl rfl ?_
  refine LJ_skip rfl rfl ?_
  refine LJ_skip rfl rfl ?_
  refine LJ_skip rfl rfl ?_
  refine LJ_skip rfl rfl ?_
  refine LJ_y rfl rfl (YJ_pickF rfl rfl) ?_
  refine LJ_y rfl rfl (YJ_assign rfl) ?_
  refine LJ_nil ?_
  refine QJ_then ?_
  refine CJ_ret ?_
  refine QJ_fin (.inl rfl) (μ' := []) (μr := _) (φ' := []) (res_tmp rfl rfl) (List.Perm.refl _) (fun _ h => nomatch h) ?_
  exact ⟨congrArg Value.bool (by first | (rw [decide_eq_decide]; unfold OnL; omega) | (symm; rw [decide_eq_false_iff_not]; unfold OnL; omega)), rfl, rfl⟩
set_option maxRecDepth 100000 in
set_option maxHeartbeats 1000000 in
theorem between_c {p1 p2 a1 a2 e1 e2 : Int} (hp : P2 p1 p2) (ha : P2 a1 a2) (he : P2 e1 e2) : Tri Try.prog 55 [ptv p1 p2, ptv a1 a2, ptv e1 e2] [] [] (Ret0 (.bool (decide (Btw p1 p2 a1 a2 e1 e2)))) := by
 refine Tri_of (N := 21) Try.func55 rfl ent_55 rfl rfl ?_
 intro w0 S0 T0
 show CJ _ _ _ [(0, _), (1, _), (2, _)] _ _
 refine CJ_seq ?_
 refine CJ_reg ?_
 refine LJ_box (cs := #[_, _]) rfl rfl rfl rfl ?_
 intro b1
 refine LJ_box (cs := #[_, _]) rfl rfl rfl rfl ?_
 intro b2
 refine LJ_box (cs := #[_, _]) rfl rfl rfl rfl ?_
 intro b3
 refine LJ_y rfl rfl (YJ_assign rfl) ?_
 refine LJ_nil ?_
 refine QJ_then ?_
 refine CJ_seq ?_
 refine CJ_reg ?_
 refine LJ_y rfl rfl (YJ_loadN (vs := [_, _]) rfl tyi_23 m2 rfl rfl) ?_
 refine LJ_y rfl rfl (YJ_loadN (vs := [_, _]) rfl tyi_23 m1 rfl rfl) ?_
 refine LJ_y rfl rfl (YJ_eqs rfl rfl (fun _ => eqs_neq_23 ..)) ?_
 refine LJ_y rfl rfl (YJ_move rfl) ?_
 refine LJ_boolC (fun h10 => ?_) (fun h10 => ?_)
 ·simp only [decide_eq_false_iff_not, Bool.not_eq_true', Bool.and_eq_false_iff] at h10
  refine LJ_y rfl rfl (YJ_loadN (vs := [_, _]) rfl tyi_23 m2 rfl rfl) ?_
  refine LJ_y rfl rfl (YJ_loadN (vs := [_, _]) rfl tyi_23 m0 rfl rfl) ?_
  refine LJ_y rfl rfl (YJ_eqs rfl rfl (fun _ => eqs_neq_23 ..)) ?_
  refine LJ_y rfl rfl (YJ_pickT rfl rfl) ?_
  refine LJ_y rfl rfl (YJ_move rfl) ?_
  refine LJ_boolC (fun h15 => ?_) (fun h15 => ?_)
  ·simp only [decide_eq_false_iff_not, Bool.not_eq_true', Bool.and_eq_false_iff] at h15
   refine LJ_y rfl rfl (YJ_loadN (vs := [_, _]) rfl tyi_23 m2 rfl rfl) ?_
   refine LJ_y rfl rfl (YJ_loadN (vs := [_, _]) rfl tyi_23 m1 rfl rfl) ?_
   refine LJ_y rfl rfl (YJ_loadN (vs := [_, _]) rfl tyi_23 m0 rfl rfl) ?_
   refine LJ_call0 rfl rfl rfl rfl rfl (on_c hp ha he) (AllIn.sub (by first | exact trivial | exact And.intro (by repeat first | exact .head _ | apply List.Mem.tail) trivial | exact And.intro (by repeat first | exact .head _ | apply List.Mem.tail) (And.intro (by repeat first | exact .head _ | apply List.Mem.tail) trivial))) ?_
   refine LJ_y rfl rfl (YJ_pickT rfl rfl) ?_
   refine LJ_y rfl rfl (YJ_assign rfl) ?_
   refine LJ_nil ?_
   refine QJ_then ?_
   refine CJ_ret ?_
   refine QJ_fin (.inl rfl) (μ' := []) (μr := _) (φ' := []) (res_tmp rfl rfl) (List.Perm.refl _) (fun _ h => nomatch h) ?_
   exact ⟨congrArg Value.bool (by symm; rw [decide_eq_decide]; exact ⟨fun h => h.2.2, fun h => ⟨by omega, by omega, h⟩⟩), rfl, rfl⟩
  ·simp only [decide_eq_true_eq, Bool.not_eq_false', Bool.and_eq_true] at h15
   refine LJ_skip rfl rfl ?_
   refine LJ_skip rfl rfl ?_
   refine LJ_skip rfl rfl ?_
   refine LJ_skip rfl rfl ?_
   refine LJ_y rfl rfl (YJ_pickF rfl rfl) ?_
   refine LJ_y rfl rfl (YJ_assign rfl) ?_
   refine LJ_nil ?_
   refine QJ_then ?_
   refine CJ_ret ?_
   refine QJ_fin (.inl rfl) (μ' := []) (μr := _) (φ' := []) (res_tmp rfl rfl) (List.Perm.refl _) (fun _ h => nomatch h) ?_
   exact ⟨congrArg Value.bool (by first | (rw [decide_eq_decide]; unfold Btw; omega) | (symm; rw [decide_eq_false_iff_not]; unfold Btw; omega)), rfl, rfl⟩
 ·simp only [decide_eq_true_eq, Bool.not_eq_false', Bool.and_eq_true] at h10
  refine LJ_skip rfl rfl ?_
  refine LJ_skip rfl rfl ?_
  refine LJ_skip rfl rfl ?_
  refine LJ_y rfl rfl (YJ_pickF rfl rfl) ?_
  refine LJ_y rfl rfl (YJ_move rfl) ?_
  refine LJ_skip rfl rfl ?_
  refine LJ_skip rfl rfl ?_
  refine LJ_skip rfl rfl ?_
  refine LJ_skip rfl rfl ?_
  refine LJ_y rfl rfl (YJ_pickF rfl rfl) ?_
  refine LJ_y rfl rfl (YJ_assign rfl) ?_
  refine LJ_nil ?_
  refine QJ_then ?_
  refine CJ_ret ?_
  refine QJ_fin (.inl rfl) (μ' := []) (μr := _) (φ' := []) (res_tmp rfl rfl) (List.Perm.refl _) (fun _ h => nomatch h) ?_
  exact ⟨congrArg Value.bool (by first | (rw [decide_eq_decide]; unfold Btw; omega) | (symm; rw [decide_eq_false_iff_not]; unfold Btw; omega)), rfl, rfl⟩
def ptCells (l : List (Int × Int)) : List Value := l.flatMap fun p => [.int .i64 p.1, .int .i64 p.2]
theorem ptCells_get : ∀ {l : List (Int × Int)} {i : Nat}, i < l.length → ((ptCells l).drop (i * 2)).take 2 = [.int .i64 (l.getD i (0, 0)).1, .int .i64 (l.getD i (0, 0)).2]
 | [], i, h => by simp at h
 | u :: l, 0, h => by simp [ptCells]
 | u :: l, i + 1, h => by
  have := ptCells_get (l := l) (i := i) (by simpa using h)
  rw [List.getD_cons_succ, ← this, Nat.succ_mul]
  simp [ptCells]
end Go.Proofs.Ytbanlhlggkdanaa
namespace Go.Proofs.Ytbanlhlggkdanaa
open Go.RowKit
theorem sgn_zero {n : Int} : sgn n = 0 ↔ n = 0 := by have := sgn_cases n; omega
end Go.Proofs.Ytbanlhlggkdanaa
namespace Go.Proofs.Ytbanlhlggkdanaa
open Go.RowKit
end Go.Proofs.Ytbanlhlggkdanaa
namespace Go.Proofs.Ytbanlhlggkdanaa
open Go.RowKit
theorem wr_all {cs : Array Value} {vs : List Value} (h : vs.length = cs.size) : wr cs 0 vs = vs.toArray := by
 rw [← Array.toList_inj, wr_list vs cs 0 (by omega)]
 simp [h]
section
variable {E : Env} {ty : TypeId} {σ : List (Nat × Value)} {μ φ : List Res}
theorem YJ_nilCheck {x : Operand} {ad : Addr} (hx : oev σ x = some (.pointer (some ad))) : YJ E (.nilCheck x) ty σ μ φ (.pointer (some ad)) := fun ac w _ _ _ _ hs _ _ => by
 simp only [execOp, hs.ev hx]
 simp
theorem YJ_ixArrP {xt e : TypeId} {x y : Operand} {ad : Addr} {n size : Nat} {k : IntKind} {i : Int} (hx : oev σ x = some (.pointer (some ad))) (hy : oev σ y = some (.int k i)) (he : arrt E.P xt = some (n, e, size)) (h0 : 0 ≤ i) (h1 : i < n) :
  YJ E (.indexAddr xt x y) ty σ μ φ (.pointer (some (ad.add (i.toNat * size)))) := fun ac w _ _ _ _ hs _ _ => by
 unfold arrt at he
 cases hu : E.P.underlying xt with
 | none => rw [hu] at he; simp at he
 | some d =>
  rw [hu] at he
  cases d <;> simp at he
  rename_i n' e'
  obtain ⟨i', hi, rfl, rfl, rfl⟩ := he
  simp only [execOp, hs.ev hx, hs.ev hy]
  simp [Instr.indexAt, asIntOf, run_underlying hu, sizeOf, typeInfo, hi, h0, h1, Instr.sureAddr]
theorem YJ_loadFactP {t : TypeId} {x : Operand} {A : Option Addr} {ad : Addr} {n j size : Nat} {xs : List Value} {v : Value} (hx : oev σ x = some (.pointer (some ad))) (ha : ad = (adr A).add j) (ht : tyi E.P t = some (false, 1)) (hm : sliceR size A n xs ∈ φ) (hc : xs[j]? = some v) :
  YJ E (.load t x) ty σ μ φ v := by subst ha; exact YJ_loadFact hx ht hm hc
theorem YJ_loadFactNP {t : TypeId} {x : Operand} {A : Option Addr} {ad : Addr} {n j size m : Nat} {xs vs : List Value} (hx : oev σ x = some (.pointer (some ad))) (ha : ad = (adr A).add j) (ht : tyi E.P t = some (true, m)) (hm : sliceR size A n xs ∈ φ) (hc : (xs.drop j).take m = vs) (hl : vs.length = m) :
  YJ E (.load t x) ty σ μ φ (.agg vs.toArray) := by subst ha; exact YJ_loadFactN hx ht hm hc hl
end
section
variable {E : Env} {Q : Qt} {σ : List (Nat × Value)} {μ φ : List Res}
def CN (n : Nat) (E : Env) (Q : Qt) (c : Code) (σ : List (Nat × Value)) (μ φ : List Res) : Prop := ∀ a w, OKa E σ a → OKm E μ φ w → Code.rounds E.P c Q n a w
theorem CJ_loopN {c : Code} (n : Nat) (h : CN n E Q c σ μ φ) : CJ E Q (.loop c) σ μ φ := fun a w ha hm => wp_loop_rounds n (h a w ha hm)
theorem CN_succ {c : Code} {n : Nat} (h : CJ E (Exit.then (Code.rounds E.P c Q n) Q) c σ μ φ) : CN (n + 1) E Q c σ μ φ := fun a w ha hm => h a w ha hm
theorem QJ_thenN {c : Code} {n : Nat} (h : CN n E Q c σ μ φ) : QJ E (Exit.then (Code.rounds E.P c Q n) Q) .normal σ μ φ := fun a w ha hm => h a w ha hm
end
structure Tr where
 v0 : Int
 v1 : Int
 v2 : Int
 n0 : Int
 n1 : Int
 n2 : Int
 f0 : Bool
 f1 : Bool
 f2 : Bool
def Tr.cells (t : Tr) : List Value := [.int .i64 t.v0, .int .i64 t.v1, .int .i64 t.v2, .int .i64 t.n0, .int .i64 t.n1, .int .i64 t.n2, .bool t.f0, .bool t.f1, .bool t.f2]
def trCells (l : List Tr) : List Value := l.flatMap Tr.cells
theorem trCells_get : ∀ {l : List Tr} {i j : Nat} {t : Tr}, l[i]? = some t → j < 9 → (trCells l)[i * 9 + j]? = t.cells[j]?
 | [], i, _, t, h, _ => by simp at h
 | u :: l, 0, j, t, h, hj => by
  simp at h
  subst h
  simp only [trCells, List.flatMap_cons, Nat.zero_mul, Nat.zero_add]
  exact List.getElem?_append_left (by simpa [Tr.cells] using hj)
 | u :: l, i + 1, j, t, h, hj => by
  have := trCells_get (l := l) (i := i) (j := j) (t := t) (by simpa using h) hj
  rw [← this, Nat.succ_mul]
  simp only [trCells, List.flatMap_cons]
  rw [List.getElem?_append_right (by simp [Tr.cells]; omega)]
  congr 1
  simp [Tr.cells]; omega
theorem trCells_row : ∀ {l : List Tr} {i : Nat} {t : Tr}, l[i]? = some t → ((trCells l).drop (i * 9)).take 9 = t.cells
 | [], i, t, h => by simp at h
 | u :: l, 0, t, h => by
  simp at h
  subst h
  simp [trCells, Tr.cells]
 | u :: l, i + 1, t, h => by
  have := trCells_row (l := l) (i := i) (t := t) (by simpa using h)
  rw [← this, Nat.succ_mul]
  simp [trCells, Tr.cells]
structure Mh where
 P : Option Addr
 cp : Nat
 T : Option Addr
 ct : Nat
 F : Option Addr
 nf : Nat
 cf : Nat
 A : Option Addr
 na : Nat
 ca : Nat
def meshFs (B : Nat) (h : Mh) (pts : List (Int × Int)) (tris : List Tr) : List Res :=
 [sliceR 4 (some ⟨B, 0, none⟩) 1 [.slice h.P pts.length h.cp, .slice h.T tris.length h.ct, .slice h.F h.nf h.cf, .slice h.A h.na h.ca], sliceR 2 h.P pts.length (ptCells pts), sliceR 9 h.T tris.length (trCells tris)]
end Go.Proofs.Ytbanlhlggkdanaa
namespace Go.Proofs.Ytbanlhlggkdanaa
open Go.RowKit
theorem tyi_54 : tyi Try.prog 54 = some (false, 1) := by kernel_rfl
theorem tyi_34 : tyi Try.prog 34 = some (true, 3) := by kernel_rfl
theorem elt_54 : elt Try.prog 54 = some (37, 9, 56) := by kernel_rfl
theorem ent_26 : Enter Try.prog 26 = true := by kernel_rfl
theorem fld_57_1 : fld Try.prog 57 1 = some 1 := by kernel_rfl
theorem ulen_54 : ((#[54] : Array TypeId)[0]?).bind Try.prog.underlying = some (.slice (Try.prog.elem ((#[54] : Array TypeId).getD 0 0))) := by kernel_rfl
theorem fld_37_0 : fld Try.prog 37 0 = some 0 := by kernel_rfl
theorem zer_34 : zer Try.prog 34 = some (.agg #[.int .i64 0, .int .i64 0, .int .i64 0]) := by kernel_rfl
theorem arrt_34 : arrt Try.prog 34 = some (3, 3, 1) := by kernel_rfl
theorem tyi_26 : tyi Try.prog 26 = some (false, 1) := by kernel_rfl
theorem elt_26 : elt Try.prog 26 = some (23, 2, 16) := by kernel_rfl
theorem ent_53 : Enter Try.prog 53 = true := by kernel_rfl
theorem fld_57_0 : fld Try.prog 57 0 = some 0 := by kernel_rfl
theorem tyi_37 : tyi Try.prog 37 = some (true, 9) := by kernel_rfl
theorem ent_21 : Enter Try.prog 21 = true := by kernel_rfl
theorem zer_37 : zer Try.prog 37 = some (.agg #[.int .i64 0, .int .i64 0, .int .i64 0, .int .i64 0, .int .i64 0, .int .i64 0, .bool false, .bool false, .bool false]) := by kernel_rfl
def Tr.real (t : Tr) : Prop := 0 ≤ t.v0 ∧ 0 ≤ t.v1 ∧ 0 ≤ t.v2
instance (t : Tr) : Decidable t.real := inferInstanceAs (Decidable (_ ∧ _))
def isReal (tris : List Tr) (i : Int) : Prop := 0 ≤ i ∧ ∃ t, tris[i.toNat]? = some t ∧ t.real
instance (tris : List Tr) (i : Int) : Decidable (isReal tris i) := by
 unfold isReal
 cases h : tris[i.toNat]? with
 | none => exact isFalse (fun q => by obtain ⟨_, t, ht, _⟩ := q; cases ht)
 | some t => exact if q : 0 ≤ i ∧ t.real then isTrue ⟨q.1, t, rfl, q.2⟩ else isFalse (fun r => by obtain ⟨h0, u, hu, hr⟩ := r; cases hu; exact q ⟨h0, hr⟩)
theorem trCells_v {l : List Tr} {i : Nat} {t : Tr} (h : l[i]? = some t) : ((trCells l).drop (i * 9)).take 3 = [.int .i64 t.v0, .int .i64 t.v1, .int .i64 t.v2] := by
 have := congrArg (List.take 3) (trCells_row h)
 rw [List.take_take] at this
 exact this
theorem get_of_lt {tris : List Tr} {i : Int} (h0 : ¬ i < 0) (h1 : ¬ (tris.length : Int) ≤ i) : ∃ t, tris[i.toNat]? = some t :=
 ⟨tris[i.toNat]'(by omega), List.getElem?_eq_getElem (by omega)⟩
theorem not_real {tris : List Tr} {i : Int} (h : i < 0 ∨ (tris.length : Int) ≤ i) : ¬ isReal tris i := fun ⟨h0, t, ht, _⟩ => by
 have : i.toNat < tris.length := by
  rcases Nat.lt_or_ge i.toNat tris.length with q | q
  ·exact q
  ·rw [List.getElem?_eq_none q] at ht; cases ht
 omega
theorem real_iff {tris : List Tr} {i : Int} {t : Tr} (h0 : ¬ i < 0) (ht : tris[i.toNat]? = some t) : isReal tris i ↔ t.real :=
 ⟨fun ⟨_, u, hu, hr⟩ => by rw [ht] at hu; cases hu; exact hr, fun hr => ⟨by omega, t, ht, hr⟩⟩
set_option maxRecDepth 100000 in
set_option maxHeartbeats 1000000 in
theorem real_c {B : Nat} {h : Mh} {pts : List (Int × Int)} {tris : List Tr} {i : Int} : Tri Try.prog 26 [.pointer (some ⟨B, 0, none⟩), .int .i64 i] [] (meshFs B h pts tris) (Ret0 (.bool (decide (isReal tris i)))) := by
 refine Tri_of (N := 38) Try.func26 rfl ent_26 rfl rfl ?_
 intro w0 S0 T0
 show CJ _ _ _ [(0, _), (1, _)] _ _
 refine CJ_seq ?_
 refine CJ_reg ?_
 refine LJ_y rfl rfl (YJ_assign rfl) ?_
 refine LJ_nil ?_
 refine QJ_then ?_
 refine CJ_seq ?_
 refine CJ_seq ?_
 refine CJ_reg ?_
 refine LJ_y rfl rfl (YJ_move rfl) ?_
 refine LJ_y rfl rfl (YJ_bin rfl rfl rfl) ?_
 refine LJ_y rfl rfl (YJ_move rfl) ?_
 refine LJ_boolC (fun h8 => ?_) (fun h8 => ?_)
 ·simp only [decide_eq_true_eq] at h8
  refine LJ_skip rfl rfl ?_
  refine LJ_skip rfl rfl ?_
  refine LJ_skip rfl rfl ?_
  refine LJ_skip rfl rfl ?_
  refine LJ_skip rfl rfl ?_
  refine LJ_skip rfl rfl ?_
  refine LJ_skip rfl rfl ?_
  refine LJ_y rfl rfl (YJ_pickT rfl rfl) ?_
  refine LJ_nil ?_
  refine QJ_then ?_
  refine CJ_condT rfl ?_
  refine CJ_seq ?_
  refine CJ_reg ?_
  refine LJ_y rfl rfl (YJ_assign rfl) ?_
  refine LJ_nil ?_
  refine QJ_then ?_
  refine CJ_ret ?_
  refine QJ_then_ret ?_
  refine QJ_fin (.inl rfl) (μ' := []) (μr := _) (φ' := []) (res_tmp rfl rfl) (List.Perm.refl _) (fun _ h => nomatch h) ?_
  exact ⟨congrArg Value.bool (decide_eq_false (not_real (.inl h8))).symm, rfl, rfl⟩
 ·simp only [decide_eq_false_iff_not] at h8
  refine LJ_y rfl rfl (YJ_move rfl) ?_
  refine LJ_y rfl rfl (YJ_move rfl) ?_
  refine LJ_y rfl rfl (YJ_nilCheck rfl) ?_
  refine LJ_y rfl rfl (YJ_fieldOwn rfl fld_57_1 rfl) ?_
  refine LJ_y rfl rfl (YJ_loadFactP (A := some ⟨B, 0, none⟩) (j := 1) rfl rfl tyi_54 m0 rfl) ?_
  refine LJ_y rfl rfl (YJ_len rfl ulen_54 rfl) ?_
  refine LJ_y rfl rfl (YJ_bin rfl rfl rfl) ?_
  refine LJ_y rfl rfl (YJ_pickF rfl rfl) ?_
  refine LJ_nil ?_
  refine QJ_then ?_
  refine CJ_cond rfl (fun h16 => ?_) (fun h16 => ?_)
  ·simp only [decide_eq_true_eq] at h16
   refine CJ_seq ?_
   refine CJ_reg ?_
   refine LJ_y rfl rfl (YJ_assign rfl) ?_
   refine LJ_nil ?_
   refine QJ_then ?_
   refine CJ_ret ?_
   refine QJ_then_ret ?_
   refine QJ_fin (.inl rfl) (μ' := []) (μr := _) (φ' := []) (res_tmp rfl rfl) (List.Perm.refl _) (fun _ h => nomatch h) ?_
   exact ⟨congrArg Value.bool (decide_eq_false (not_real (.inr h16))).symm, rfl, rfl⟩
  ·simp only [decide_eq_false_iff_not] at h16
   obtain ⟨t, ht⟩ := get_of_lt h8 h16
   have hi := real_iff h8 ht
   refine CJ_skip ?_
   refine QJ_then ?_
   refine CJ_seq ?_
   refine CJ_reg ?_
   refine LJ_y rfl rfl (YJ_move rfl) ?_
   refine LJ_y rfl rfl (YJ_nilCheck rfl) ?_
   refine LJ_y rfl rfl (YJ_fieldOwn rfl fld_57_1 rfl) ?_
   refine LJ_y rfl rfl (YJ_loadFactP (A := some ⟨B, 0, none⟩) (j := 1) rfl rfl tyi_54 m0 rfl) ?_
   refine LJ_y rfl rfl (YJ_move rfl) ?_
   refine LJ_y rfl rfl (YJ_ixFact rfl rfl elt_54 m2 (by decide) (by omega) (by omega) (by omega)) ?_
   refine LJ_y rfl rfl (YJ_fieldAddr rfl fld_37_0) ?_
   refine LJ_y rfl rfl (YJ_loadFactNP (A := h.T) (j := i.toNat * 9) (vs := [.int .i64 t.v0, .int .i64 t.v1, .int .i64 t.v2]) rfl (Addr.add_add ..) tyi_34 m2 (trCells_v ht) rfl) ?_
   refine LJ_alloc (cs := #[_, _, _]) rfl rfl zer_34 rfl ?_
   intro b1
   refine LJ_store (cs' := #[_, _, _]) (μ' := [_]) 0 rfl rfl rfl rfl tyi_34 rfl (Nat.le_of_ble_eq_true rfl) rfl rfl rfl ?_
   refine LJ_nil ?_
   refine QJ_then ?_
   refine CJ_seq ?_
   refine CJ_reg ?_
   refine LJ_y rfl rfl (YJ_ixArr rfl rfl arrt_34 (by omega) (by omega) rfl) ?_
   refine LJ_y rfl rfl (YJ_loadL rfl tyi_3 m0 rfl) ?_
   refine LJ_y rfl rfl (YJ_bin rfl rfl rfl) ?_
   refine LJ_y rfl rfl (YJ_move rfl) ?_
   refine LJ_boolC (fun h28 => ?_) (fun h28 => ?_)
   ·simp only [decide_eq_true_eq] at h28
    refine LJ_y rfl rfl (YJ_ixArr rfl rfl arrt_34 (by omega) (by omega) rfl) ?_
    refine LJ_y rfl rfl (YJ_loadL rfl tyi_3 m0 rfl) ?_
    refine LJ_y rfl rfl (YJ_bin rfl rfl rfl) ?_
    refine LJ_y rfl rfl (YJ_pickT rfl rfl) ?_
    refine LJ_y rfl rfl (YJ_move rfl) ?_
    refine LJ_boolC (fun h33 => ?_) (fun h33 => ?_)
    ·simp only [decide_eq_true_eq] at h33
     refine LJ_y rfl rfl (YJ_ixArr rfl rfl arrt_34 (by omega) (by omega) rfl) ?_
     refine LJ_y rfl rfl (YJ_loadL rfl tyi_3 m0 rfl) ?_
     refine LJ_y rfl rfl (YJ_bin rfl rfl rfl) ?_
     refine LJ_y rfl rfl (YJ_pickT rfl rfl) ?_
     refine LJ_y rfl rfl (YJ_assign rfl) ?_
     refine LJ_nil ?_
     refine QJ_then ?_
     refine CJ_ret ?_
     refine QJ_fin (.inl rfl) (μ' := []) (μr := _) (φ' := []) (res_tmp rfl rfl) (List.Perm.refl _) (fun _ h => nomatch h) ?_
     exact ⟨congrArg Value.bool (by first | (symm; rw [decide_eq_false_iff_not, hi]; unfold Tr.real; omega) | (symm; rw [decide_eq_decide, hi]; unfold Tr.real; omega)), rfl, rfl⟩
    ·simp only [decide_eq_false_iff_not] at h33
     refine LJ_skip rfl rfl ?_
     refine LJ_skip rfl rfl ?_
     refine LJ_skip rfl rfl ?_
     refine LJ_y rfl rfl (YJ_pickF rfl rfl) ?_
     refine LJ_y rfl rfl (YJ_assign rfl) ?_
     refine LJ_nil ?_
     refine QJ_then ?_
     refine CJ_ret ?_
     refine QJ_fin (.inl rfl) (μ' := []) (μr := _) (φ' := []) (res_tmp rfl rfl) (List.Perm.refl _) (fun _ h => nomatch h) ?_
     exact ⟨congrArg Value.bool (by first | (symm; rw [decide_eq_false_iff_not, hi]; unfold Tr.real; omega) | (symm; rw [decide_eq_decide, hi]; unfold Tr.real; omega)), rfl, rfl⟩
   ·simp only [decide_eq_false_iff_not] at h28
    refine LJ_skip rfl rfl ?_
    refine LJ_skip rfl rfl ?_
    refine LJ_skip rfl rfl ?_
    refine LJ_y rfl rfl (YJ_pickF rfl rfl) ?_
    refine LJ_y rfl rfl (YJ_move rfl) ?_
    refine LJ_skip rfl rfl ?_
    refine LJ_skip rfl rfl ?_
    refine LJ_skip rfl rfl ?_
    refine LJ_y rfl rfl (YJ_pickF rfl rfl) ?_
    refine LJ_y rfl rfl (YJ_assign rfl) ?_
    refine LJ_nil ?_
    refine QJ_then ?_
    refine CJ_ret ?_
    refine QJ_fin (.inl rfl) (μ' := []) (μr := _) (φ' := []) (res_tmp rfl rfl) (List.Perm.refl _) (fun _ h => nomatch h) ?_
    exact ⟨congrArg Value.bool (by first | (symm; rw [decide_eq_false_iff_not, hi]; unfold Tr.real; omega) | (symm; rw [decide_eq_decide, hi]; unfold Tr.real; omega)), rfl, rfl⟩
def at3 (a b c : Int) (i : Nat) : Int := if i = 0 then a else if i = 1 then b else c
def Tr.v (t : Tr) (i : Nat) : Int := at3 t.v0 t.v1 t.v2 i
def Tr.n (t : Tr) (i : Nat) : Int := at3 t.n0 t.n1 t.n2 i
def ptAt (pts : List (Int × Int)) (i : Int) : Int × Int := pts.getD i.toNat (0, 0)
def bey (pts : List (Int × Int)) (t : Tr) (i : Nat) (p : Int × Int) : Prop :=
 A2 (ptAt pts (t.v ((i + 1) % 3))).1 (ptAt pts (t.v ((i + 1) % 3))).2 (ptAt pts (t.v ((i + 2) % 3))).1 (ptAt pts (t.v ((i + 2) % 3))).2 p.1 p.2 < 0
instance (pts : List (Int × Int)) (t : Tr) (i : Nat) (p : Int × Int) : Decidable (bey pts t i p) := inferInstanceAs (Decidable (_ < _))
theorem sgn_lt0 {n : Int} : sgn n < 0 ↔ n < 0 := by have := sgn_cases n; omega
set_option maxRecDepth 100000 in
set_option maxHeartbeats 1000000 in
theorem beyond0_c {B : Nat} {h : Mh} {pts : List (Int × Int)} {tris : List Tr} {t : Tr} {p1 p2 : Int} (hP : ∀ j, j < pts.length → P2 (pts.getD j (0, 0)).1 (pts.getD j (0, 0)).2) (ha : 0 ≤ t.v1 ∧ t.v1 < pts.length) (hb : 0 ≤ t.v2 ∧ t.v2 < pts.length) (hp : P2 p1 p2) : Tri Try.prog 53 [.pointer (some ⟨B, 0, none⟩), .agg t.cells.toArray, .int .i64 0, ptv p1 p2] [] (meshFs B h pts tris) (Ret0 (.bool (decide (bey pts t 0 (p1, p2))))) := by
 refine Tri_of (N := 36) Try.func53 rfl ent_53 rfl rfl ?_
 intro w0 S0 T0
 show CJ _ _ _ [(0, _), (1, _), (2, _), (3, _)] _ _
 obtain ⟨ha0, ha1⟩ := ha
 obtain ⟨hb0, hb1⟩ := hb
 have hpa := hP (t.v1).toNat (by omega)
 have hpb := hP (t.v2).toNat (by omega)
 refine CJ_seq ?_
 refine CJ_reg ?_
 refine LJ_box (cs := #[_, _, _, _, _, _, _, _, _]) rfl rfl rfl rfl ?_
 intro b1
 refine LJ_box (cs := #[_, _]) rfl rfl rfl rfl ?_
 intro b2
 refine LJ_y rfl rfl (YJ_assign rfl) ?_
 refine LJ_nil ?_
 refine QJ_then ?_
 refine CJ_seq ?_
 refine CJ_regD mix (by kernel_rfl) (fun _ _ _ _ _ h => h) _ _ (fun _ h => h) (fun _ h => h) ?_
 refine AJ_y 0 rfl (by kernel_rfl) (by kernel_rfl) rfl rfl (YJ_move rfl) ?_
 refine AJ_y 1 rfl (by kernel_rfl) (by kernel_rfl) rfl rfl (YJ_nilCheck rfl) ?_
 refine AJ_y 2 rfl (by kernel_rfl) (by kernel_rfl) rfl rfl (YJ_fieldOwn rfl fld_57_0 rfl) ?_
 refine AJ_y 3 rfl (by kernel_rfl) (by kernel_rfl) rfl rfl (YJ_loadFactP (A := some ⟨B, 0, none⟩) (j := 0) rfl rfl tyi_26 m0 rfl) ?_
 refine AJ_y 4 rfl (by kernel_rfl) (by kernel_rfl) rfl rfl (YJ_move rfl) ?_
 refine AJ_y 5 rfl (by kernel_rfl) (by kernel_rfl) rfl rfl (YJ_bin rfl rfl (iop_add (by omega))) ?_
 refine AJ_y 6 rfl (by kernel_rfl) (by kernel_rfl) rfl rfl (YJ_rem rfl rfl (by first | decide | omega)) ?_
 refine AJ_val (v := .int .i64 1) (rfl) ?_
 refine AJ_y 7 rfl (by kernel_rfl) (by kernel_rfl) rfl rfl (YJ_fieldOwn rfl fld_37_0 rfl) ?_
 refine AJ_y 8 rfl (by kernel_rfl) (by kernel_rfl) rfl rfl (YJ_ixArr rfl rfl arrt_34 (by omega) (by omega) rfl) ?_
 refine AJ_y 9 rfl (by kernel_rfl) (by kernel_rfl) rfl rfl (YJ_loadL rfl tyi_3 m1 rfl) ?_
 refine AJ_y 10 rfl (by kernel_rfl) (by kernel_rfl) rfl rfl (YJ_ixFact rfl rfl elt_26 m1 (by decide) (by omega) (by omega) (by omega)) ?_
 refine AJ_y 11 rfl (by kernel_rfl) (by kernel_rfl) rfl rfl (YJ_loadFactN (vs := [_, _]) (xs := ptCells pts) rfl tyi_23 m1 (ptCells_get (i := (t.v1).toNat) (by omega)) rfl) ?_
 refine AJ_y 12 rfl (by kernel_rfl) (by kernel_rfl) rfl rfl (YJ_move rfl) ?_
 refine AJ_y 13 rfl (by kernel_rfl) (by kernel_rfl) rfl rfl (YJ_nilCheck rfl) ?_
 refine AJ_y 14 rfl (by kernel_rfl) (by kernel_rfl) rfl rfl (YJ_fieldOwn rfl fld_57_0 rfl) ?_
 refine AJ_y 15 rfl (by kernel_rfl) (by kernel_rfl) rfl rfl (YJ_loadFactP (A := some ⟨B, 0, none⟩) (j := 0) rfl rfl tyi_26 m0 rfl) ?_
 refine AJ_y 16 rfl (by kernel_rfl) (by kernel_rfl) rfl rfl (YJ_move rfl) ?_
 refine AJ_y 17 rfl (by kernel_rfl) (by kernel_rfl) rfl rfl (YJ_bin rfl rfl (iop_add (by omega))) ?_
 refine AJ_y 18 rfl (by kernel_rfl) (by kernel_rfl) rfl rfl (YJ_rem rfl rfl (by first | decide | omega)) ?_
 refine AJ_val (v := .int .i64 2) (rfl) ?_
 refine AJ_y 19 rfl (by kernel_rfl) (by kernel_rfl) rfl rfl (YJ_fieldOwn rfl fld_37_0 rfl) ?_
 refine AJ_y 20 rfl (by kernel_rfl) (by kernel_rfl) rfl rfl (YJ_ixArr rfl rfl arrt_34 (by omega) (by omega) rfl) ?_
 refine AJ_y 21 rfl (by kernel_rfl) (by kernel_rfl) rfl rfl (YJ_loadL rfl tyi_3 m1 rfl) ?_
 refine AJ_y 22 rfl (by kernel_rfl) (by kernel_rfl) rfl rfl (YJ_ixFact rfl rfl elt_26 m1 (by decide) (by omega) (by omega) (by omega)) ?_
 refine AJ_y 23 rfl (by kernel_rfl) (by kernel_rfl) rfl rfl (YJ_loadFactN (vs := [_, _]) (xs := ptCells pts) rfl tyi_23 m1 (ptCells_get (i := (t.v2).toNat) (by omega)) rfl) ?_
 refine AJ_y 24 rfl (by kernel_rfl) (by kernel_rfl) rfl rfl (YJ_loadN (vs := [_, _]) rfl tyi_23 m0 rfl rfl) ?_
 refine AJ_call0 25 rfl (by kernel_rfl) rfl rfl rfl rfl rfl (orient_c hpa hpb hp) (AllIn.sub (by first | exact trivial | exact And.intro (by repeat first | exact .head _ | apply List.Mem.tail) trivial | exact And.intro (by repeat first | exact .head _ | apply List.Mem.tail) (And.intro (by repeat first | exact .head _ | apply List.Mem.tail) trivial))) ?_
 refine AJ_y 26 rfl (by kernel_rfl) (by kernel_rfl) rfl rfl (YJ_bin rfl rfl rfl) ?_
 refine AJ_y 27 rfl (by kernel_rfl) (by kernel_rfl) rfl rfl (YJ_assign rfl) ?_
 refine AJ_done (by kernel_rfl) ?_
 refine QJ_then ?_
 refine CJ_ret ?_
 refine QJ_fin (.inl rfl) (μ' := []) (μr := _) (φ' := []) (res_tmp rfl rfl) (List.Perm.refl _) (fun _ h => nomatch h) ?_
 exact ⟨congrArg Value.bool (decide_eq_decide.2 sgn_lt0), rfl, rfl⟩
set_option maxRecDepth 100000 in
set_option maxHeartbeats 1000000 in
theorem beyond1_c {B : Nat} {h : Mh} {pts : List (Int × Int)} {tris : List Tr} {t : Tr} {p1 p2 : Int} (hP : ∀ j, j < pts.length → P2 (pts.getD j (0, 0)).1 (pts.getD j (0, 0)).2) (ha : 0 ≤ t.v2 ∧ t.v2 < pts.length) (hb : 0 ≤ t.v0 ∧ t.v0 < pts.length) (hp : P2 p1 p2) : Tri Try.prog 53 [.pointer (some ⟨B, 0, none⟩), .agg t.cells.toArray, .int .i64 1, ptv p1 p2] [] (meshFs B h pts tris) (Ret0 (.bool (decide (bey pts t 1 (p1, p2))))) := by
 refine Tri_of (N := 36) Try.func53 rfl ent_53 rfl rfl ?_
 intro w0 S0 T0
 show CJ _ _ _ [(0, _), (1, _), (2, _), (3, _)] _ _
 obtain ⟨ha0, ha1⟩ := ha
 obtain ⟨hb0, hb1⟩ := hb
 have hpa := hP (t.v2).toNat (by omega)
 have hpb := hP (t.v0).toNat (by omega)
 refine CJ_seq ?_
 refine CJ_reg ?_
 refine LJ_box (cs := #[_, _, _, _, _, _, _, _, _]) rfl rfl rfl rfl ?_
 intro b1
 refine LJ_box (cs := #[_, _]) rfl rfl rfl rfl ?_
 intro b2
 refine LJ_y rfl rfl (YJ_assign rfl) ?_
 refine LJ_nil ?_
 refine QJ_then ?_
 refine CJ_seq ?_
 refine CJ_regD mix (by kernel_rfl) (fun _ _ _ _ _ h => h) _ _ (fun _ h => h) (fun _ h => h) ?_
 refine AJ_y 0 rfl (by kernel_rfl) (by kernel_rfl) rfl rfl (YJ_move rfl) ?_
 refine AJ_y 1 rfl (by kernel_rfl) (by kernel_rfl) rfl rfl (YJ_nilCheck rfl) ?_
 refine AJ_y 2 rfl (by kernel_rfl) (by kernel_rfl) rfl rfl (YJ_fieldOwn rfl fld_57_0 rfl) ?_
 refine AJ_y 3 rfl (by kernel_rfl) (by kernel_rfl) rfl rfl (YJ_loadFactP (A := some ⟨B, 0, none⟩) (j := 0) rfl rfl tyi_26 m0 rfl) ?_
 refine AJ_y 4 rfl (by kernel_rfl) (by kernel_rfl) rfl rfl (YJ_move rfl) ?_
 refine AJ_y 5 rfl (by kernel_rfl) (by kernel_rfl) rfl rfl (YJ_bin rfl rfl (iop_add (by omega))) ?_
 refine AJ_y 6 rfl (by kernel_rfl) (by kernel_rfl) rfl rfl (YJ_rem rfl rfl (by first | decide | omega)) ?_
 refine AJ_val (v := .int .i64 2) (rfl) ?_
 refine AJ_y 7 rfl (by kernel_rfl) (by kernel_rfl) rfl rfl (YJ_fieldOwn rfl fld_37_0 rfl) ?_
 refine AJ_y 8 rfl (by kernel_rfl) (by kernel_rfl) rfl rfl (YJ_ixArr rfl rfl arrt_34 (by omega) (by omega) rfl) ?_
 refine AJ_y 9 rfl (by kernel_rfl) (by kernel_rfl) rfl rfl (YJ_loadL rfl tyi_3 m1 rfl) ?_
 refine AJ_y 10 rfl (by kernel_rfl) (by kernel_rfl) rfl rfl (YJ_ixFact rfl rfl elt_26 m1 (by decide) (by omega) (by omega) (by omega)) ?_
 refine AJ_y 11 rfl (by kernel_rfl) (by kernel_rfl) rfl rfl (YJ_loadFactN (vs := [_, _]) (xs := ptCells pts) rfl tyi_23 m1 (ptCells_get (i := (t.v2).toNat) (by omega)) rfl) ?_
 refine AJ_y 12 rfl (by kernel_rfl) (by kernel_rfl) rfl rfl (YJ_move rfl) ?_
 refine AJ_y 13 rfl (by kernel_rfl) (by kernel_rfl) rfl rfl (YJ_nilCheck rfl) ?_
 refine AJ_y 14 rfl (by kernel_rfl) (by kernel_rfl) rfl rfl (YJ_fieldOwn rfl fld_57_0 rfl) ?_
 refine AJ_y 15 rfl (by kernel_rfl) (by kernel_rfl) rfl rfl (YJ_loadFactP (A := some ⟨B, 0, none⟩) (j := 0) rfl rfl tyi_26 m0 rfl) ?_
 refine AJ_y 16 rfl (by kernel_rfl) (by kernel_rfl) rfl rfl (YJ_move rfl) ?_
 refine AJ_y 17 rfl (by kernel_rfl) (by kernel_rfl) rfl rfl (YJ_bin rfl rfl (iop_add (by omega))) ?_
 refine AJ_y 18 rfl (by kernel_rfl) (by kernel_rfl) rfl rfl (YJ_rem rfl rfl (by first | decide | omega)) ?_
 refine AJ_val (v := .int .i64 0) (rfl) ?_
 refine AJ_y 19 rfl (by kernel_rfl) (by kernel_rfl) rfl rfl (YJ_fieldOwn rfl fld_37_0 rfl) ?_
 refine AJ_y 20 rfl (by kernel_rfl) (by kernel_rfl) rfl rfl (YJ_ixArr rfl rfl arrt_34 (by omega) (by omega) rfl) ?_
 refine AJ_y 21 rfl (by kernel_rfl) (by kernel_rfl) rfl rfl (YJ_loadL rfl tyi_3 m1 rfl) ?_
 refine AJ_y 22 rfl (by kernel_rfl) (by kernel_rfl) rfl rfl (YJ_ixFact rfl rfl elt_26 m1 (by decide) (by omega) (by omega) (by omega)) ?_
 refine AJ_y 23 rfl (by kernel_rfl) (by kernel_rfl) rfl rfl (YJ_loadFactN (vs := [_, _]) (xs := ptCells pts) rfl tyi_23 m1 (ptCells_get (i := (t.v0).toNat) (by omega)) rfl) ?_
 refine AJ_y 24 rfl (by kernel_rfl) (by kernel_rfl) rfl rfl (YJ_loadN (vs := [_, _]) rfl tyi_23 m0 rfl rfl) ?_
 refine AJ_call0 25 rfl (by kernel_rfl) rfl rfl rfl rfl rfl (orient_c hpa hpb hp) (AllIn.sub (by first | exact trivial | exact And.intro (by repeat first | exact .head _ | apply List.Mem.tail) trivial | exact And.intro (by repeat first | exact .head _ | apply List.Mem.tail) (And.intro (by repeat first | exact .head _ | apply List.Mem.tail) trivial))) ?_
 refine AJ_y 26 rfl (by kernel_rfl) (by kernel_rfl) rfl rfl (YJ_bin rfl rfl rfl) ?_
 refine AJ_y 27 rfl (by kernel_rfl) (by kernel_rfl) rfl rfl (YJ_assign rfl) ?_
 refine AJ_done (by kernel_rfl) ?_
 refine QJ_then ?_
 refine CJ_ret ?_
 refine QJ_fin (.inl rfl) (μ' := []) (μr := _) (φ' := []) (res_tmp rfl rfl) (List.Perm.refl _) (fun _ h => nomatch h) ?_
 exact ⟨congrArg Value.bool (decide_eq_decide.2 sgn_lt0), rfl, rfl⟩
set_option maxRecDepth 100000 in
set_option maxHeartbeats 1000000 in
theorem beyond2_c {B : Nat} {h : Mh} {pts : List (Int × Int)} {tris : List Tr} {t : Tr} {p1 p2 : Int} (hP : ∀ j, j < pts.length → P2 (pts.getD j (0, 0)).1 (pts.getD j (0, 0)).2) (ha : 0 ≤ t.v0 ∧ t.v0 < pts.length) (hb : 0 ≤ t.v1 ∧ t.v1 < pts.length) (hp : P2 p1 p2) : Tri Try.prog 53 [.pointer (some ⟨B, 0, none⟩), .agg t.cells.toArray, .int .i64 2, ptv p1 p2] [] (meshFs B h pts tris) (Ret0 (.bool (decide (bey pts t 2 (p1, p2))))) := by
 refine Tri_of (N := 36) Try.func53 rfl ent_53 rfl rfl ?_
 intro w0 S0 T0
 show CJ _ _ _ [(0, _), (1, _), (2, _), (3, _)] _ _
 obtain ⟨ha0, ha1⟩ := ha
 obtain ⟨hb0, hb1⟩ := hb
 have hpa := hP (t.v0).toNat (by omega)
 have hpb := hP (t.v1).toNat (by omega)
 refine CJ_seq ?_
 refine CJ_reg ?_
 refine LJ_box (cs := #[_, _, _, _, _, _, _, _, _]) rfl rfl rfl rfl ?_
 intro b1
 refine LJ_box (cs := #[_, _]) rfl rfl rfl rfl ?_
 intro b2
 refine LJ_y rfl rfl (YJ_assign rfl) ?_
 refine LJ_nil ?_
 refine QJ_then ?_
 refine CJ_seq ?_
 refine CJ_regD mix (by kernel_rfl) (fun _ _ _ _ _ h => h) _ _ (fun _ h => h) (fun _ h => h) ?_
 refine AJ_y 0 rfl (by kernel_rfl) (by kernel_rfl) rfl rfl (YJ_move rfl) ?_
 refine AJ_y 1 rfl (by kernel_rfl) (by kernel_rfl) rfl rfl (YJ_nilCheck rfl) ?_
 refine AJ_y 2 rfl (by kernel_rfl) (by kernel_rfl) rfl rfl (YJ_fieldOwn rfl fld_57_0 rfl) ?_
 refine AJ_y 3 rfl (by kernel_rfl) (by kernel_rfl) rfl rfl (YJ_loadFactP (A := some ⟨B, 0, none⟩) (j := 0) rfl rfl tyi_26 m0 rfl) ?_
 refine AJ_y 4 rfl (by kernel_rfl) (by kernel_rfl) rfl rfl (YJ_move rfl) ?_
 refine AJ_y 5 rfl (by kernel_rfl) (by kernel_rfl) rfl rfl (YJ_bin rfl rfl (iop_add (by omega))) ?_
 refine AJ_y 6 rfl (by kernel_rfl) (by kernel_rfl) rfl rfl (YJ_rem rfl rfl (by first | decide | omega)) ?_
 refine AJ_val (v := .int .i64 0) (rfl) ?_
 refine AJ_y 7 rfl (by kernel_rfl) (by kernel_rfl) rfl rfl (YJ_fieldOwn rfl fld_37_0 rfl) ?_
 refine AJ_y 8 rfl (by kernel_rfl) (by kernel_rfl) rfl rfl (YJ_ixArr rfl rfl arrt_34 (by omega) (by omega) rfl) ?_
 refine AJ_y 9 rfl (by kernel_rfl) (by kernel_rfl) rfl rfl (YJ_loadL rfl tyi_3 m1 rfl) ?_
 refine AJ_y 10 rfl (by kernel_rfl) (by kernel_rfl) rfl rfl (YJ_ixFact rfl rfl elt_26 m1 (by decide) (by omega) (by omega) (by omega)) ?_
 refine AJ_y 11 rfl (by kernel_rfl) (by kernel_rfl) rfl rfl (YJ_loadFactN (vs := [_, _]) (xs := ptCells pts) rfl tyi_23 m1 (ptCells_get (i := (t.v0).toNat) (by omega)) rfl) ?_
 refine AJ_y 12 rfl (by kernel_rfl) (by kernel_rfl) rfl rfl (YJ_move rfl) ?_
 refine AJ_y 13 rfl (by kernel_rfl) (by kernel_rfl) rfl rfl (YJ_nilCheck rfl) ?_
 refine AJ_y 14 rfl (by kernel_rfl) (by kernel_rfl) rfl rfl (YJ_fieldOwn rfl fld_57_0 rfl) ?_
 refine AJ_y 15 rfl (by kernel_rfl) (by kernel_rfl) rfl rfl (YJ_loadFactP (A := some ⟨B, 0, none⟩) (j := 0) rfl rfl tyi_26 m0 rfl) ?_
 refine AJ_y 16 rfl (by kernel_rfl) (by kernel_rfl) rfl rfl (YJ_move rfl) ?_
 refine AJ_y 17 rfl (by kernel_rfl) (by kernel_rfl) rfl rfl (YJ_bin rfl rfl (iop_add (by omega))) ?_
 refine AJ_y 18 rfl (by kernel_rfl) (by kernel_rfl) rfl rfl (YJ_rem rfl rfl (by first | decide | omega)) ?_
 refine AJ_val (v := .int .i64 1) (rfl) ?_
 refine AJ_y 19 rfl (by kernel_rfl) (by kernel_rfl) rfl rfl (YJ_fieldOwn rfl fld_37_0 rfl) ?_
 refine AJ_y 20 rfl (by kernel_rfl) (by kernel_rfl) rfl rfl (YJ_ixArr rfl rfl arrt_34 (by omega) (by omega) rfl) ?_
 refine AJ_y 21 rfl (by kernel_rfl) (by kernel_rfl) rfl rfl (YJ_loadL rfl tyi_3 m1 rfl) ?_
 refine AJ_y 22 rfl (by kernel_rfl) (by kernel_rfl) rfl rfl (YJ_ixFact rfl rfl elt_26 m1 (by decide) (by omega) (by omega) (by omega)) ?_
 refine AJ_y 23 rfl (by kernel_rfl) (by kernel_rfl) rfl rfl (YJ_loadFactN (vs := [_, _]) (xs := ptCells pts) rfl tyi_23 m1 (ptCells_get (i := (t.v1).toNat) (by omega)) rfl) ?_
 refine AJ_y 24 rfl (by kernel_rfl) (by kernel_rfl) rfl rfl (YJ_loadN (vs := [_, _]) rfl tyi_23 m0 rfl rfl) ?_
 refine AJ_call0 25 rfl (by kernel_rfl) rfl rfl rfl rfl rfl (orient_c hpa hpb hp) (AllIn.sub (by first | exact trivial | exact And.intro (by repeat first | exact .head _ | apply List.Mem.tail) trivial | exact And.intro (by repeat first | exact .head _ | apply List.Mem.tail) (And.intro (by repeat first | exact .head _ | apply List.Mem.tail) trivial))) ?_
 refine AJ_y 26 rfl (by kernel_rfl) (by kernel_rfl) rfl rfl (YJ_bin rfl rfl rfl) ?_
 refine AJ_y 27 rfl (by kernel_rfl) (by kernel_rfl) rfl rfl (YJ_assign rfl) ?_
 refine AJ_done (by kernel_rfl) ?_
 refine QJ_then ?_
 refine CJ_ret ?_
 refine QJ_fin (.inl rfl) (μ' := []) (μr := _) (φ' := []) (res_tmp rfl rfl) (List.Perm.refl _) (fun _ h => nomatch h) ?_
 exact ⟨congrArg Value.bool (decide_eq_decide.2 sgn_lt0), rfl, rfl⟩
def Tr.ok (t : Tr) (n : Nat) : Prop := (0 ≤ t.v0 ∧ t.v0 < n) ∧ (0 ≤ t.v1 ∧ t.v1 < n) ∧ (0 ≤ t.v2 ∧ t.v2 < n)
def hld (pts : List (Int × Int)) (t : Tr) (p : Int × Int) : Prop := ¬ bey pts t 0 p ∧ ¬ bey pts t 1 p ∧ ¬ bey pts t 2 p
instance (pts : List (Int × Int)) (t : Tr) (p : Int × Int) : Decidable (hld pts t p) := inferInstanceAs (Decidable (_ ∧ _))
set_option maxRecDepth 100000 in
set_option maxHeartbeats 1000000 in
theorem holds_c {B : Nat} {h : Mh} {pts : List (Int × Int)} {tris : List Tr} {t : Tr} {i : Int} {p1 p2 : Int} (hP : ∀ j, j < pts.length → P2 (pts.getD j (0, 0)).1 (pts.getD j (0, 0)).2) (hi : 0 ≤ i) (ht : tris[i.toNat]? = some t) (hv : t.ok pts.length) (hp : P2 p1 p2) : Tri Try.prog 21 [.pointer (some ⟨B, 0, none⟩), .int .i64 i, ptv p1 p2] [] (meshFs B h pts tris) (Ret0 (.bool (decide (hld pts t (p1, p2))))) := by
 refine Tri_of (N := 34) Try.func21 rfl ent_21 rfl rfl ?_
 intro w0 S0 T0
 show CJ _ _ _ [(0, _), (1, _), (2, _)] _ _
 have hlen : i.toNat < tris.length := by
  rcases Nat.lt_or_ge i.toNat tris.length with q | q
  ·exact q
  ·rw [List.getElem?_eq_none q] at ht; cases ht
 obtain ⟨v0, v1, v2⟩ := hv
 refine CJ_seq ?_
 refine CJ_reg ?_
 refine LJ_box (cs := #[_, _]) rfl rfl rfl rfl ?_
 intro b1
 refine LJ_y rfl rfl (YJ_assign rfl) ?_
 refine LJ_nil ?_
 refine QJ_then ?_
 refine CJ_seq ?_
 refine CJ_reg ?_
 refine LJ_y rfl rfl (YJ_move rfl) ?_
 refine LJ_y rfl rfl (YJ_nilCheck rfl) ?_
 refine LJ_y rfl rfl (YJ_fieldOwn rfl fld_57_1 rfl) ?_
 refine LJ_y rfl rfl (YJ_loadFactP (A := some ⟨B, 0, none⟩) (j := 1) rfl rfl tyi_54 m0 rfl) ?_
 refine LJ_y rfl rfl (YJ_move rfl) ?_
 refine LJ_y rfl rfl (YJ_ixFact rfl rfl elt_54 m2 (by decide) (by omega) (by omega) (by omega)) ?_
 refine LJ_y rfl rfl (YJ_loadFactN (vs := [.int .i64 t.v0, .int .i64 t.v1, .int .i64 t.v2, .int .i64 t.n0, .int .i64 t.n1, .int .i64 t.n2, .bool t.f0, .bool t.f1, .bool t.f2]) (xs := trCells tris) rfl tyi_37 m2 (trCells_row ht) rfl) ?_
 refine LJ_alloc (cs := #[_, _, _, _, _, _, _, _, _]) rfl rfl zer_37 rfl ?_
 intro b2
 refine LJ_store (cs' := #[_, _, _, _, _, _, _, _, _]) (μ' := [_, _]) 0 rfl rfl rfl rfl tyi_37 rfl (Nat.le_of_ble_eq_true rfl) rfl (wr_all rfl) rfl ?_
 refine LJ_nil ?_
 refine QJ_then ?_
 refine CJ_seq ?_
 refine CJ_reg ?_
 refine LJ_y rfl rfl (YJ_move rfl) ?_
 refine LJ_y rfl rfl (YJ_loadN (vs := [_, _, _, _, _, _, _, _, _]) rfl tyi_37 m0 rfl rfl) ?_
 refine LJ_y rfl rfl (YJ_loadN (vs := [_, _]) rfl tyi_23 m1 rfl rfl) ?_
 refine LJ_call0 rfl rfl rfl rfl rfl (beyond0_c (h := h) (tris := tris) hP v1 v2 hp) (fun _ h => h) ?_
 refine LJ_y rfl rfl (YJ_not rfl) ?_
 refine LJ_y rfl rfl (YJ_move rfl) ?_
 refine LJ_boolC (fun h20 => ?_) (fun h20 => ?_)
 ·simp only [decide_eq_false_iff_not, Bool.not_eq_true'] at h20
  refine LJ_y rfl rfl (YJ_move rfl) ?_
  refine LJ_y rfl rfl (YJ_loadN (vs := [_, _, _, _, _, _, _, _, _]) rfl tyi_37 m0 rfl rfl) ?_
  refine LJ_y rfl rfl (YJ_loadN (vs := [_, _]) rfl tyi_23 m1 rfl rfl) ?_
  refine LJ_call0 rfl rfl rfl rfl rfl (beyond1_c (h := h) (tris := tris) hP v2 v0 hp) (fun _ h => h) ?_
  refine LJ_y rfl rfl (YJ_not rfl) ?_
  refine LJ_y rfl rfl (YJ_pickT rfl rfl) ?_
  refine LJ_y rfl rfl (YJ_move rfl) ?_
  refine LJ_boolC (fun h27 => ?_) (fun h27 => ?_)
  ·simp only [decide_eq_false_iff_not, Bool.not_eq_true'] at h27
   refine LJ_y rfl rfl (YJ_move rfl) ?_
   refine LJ_y rfl rfl (YJ_loadN (vs := [_, _, _, _, _, _, _, _, _]) rfl tyi_37 m0 rfl rfl) ?_
   refine LJ_y rfl rfl (YJ_loadN (vs := [_, _]) rfl tyi_23 m1 rfl rfl) ?_
   refine LJ_call0 rfl rfl rfl rfl rfl (beyond2_c (h := h) (tris := tris) hP v0 v1 hp) (fun _ h => h) ?_
   refine LJ_y rfl rfl (YJ_not rfl) ?_
   refine LJ_y rfl rfl (YJ_pickT rfl rfl) ?_
   refine LJ_y rfl rfl (YJ_assign rfl) ?_
   refine LJ_nil ?_
   refine QJ_then ?_
   refine CJ_ret ?_
   refine QJ_fin (.inl rfl) (μ' := []) (μr := _) (φ' := []) (res_tmp rfl rfl) (List.Perm.refl _) (fun _ h => nomatch h) ?_
   exact ⟨congrArg Value.bool (by first | (symm; rw [decide_eq_false_iff_not]; unfold hld; simp only [*, not_true_eq_false, not_false_eq_true, false_and, and_false, true_and]) | (unfold hld; simp [*])), rfl, rfl⟩
  ·simp only [decide_eq_true_eq, Bool.not_eq_false'] at h27
   refine LJ_skip rfl rfl ?_
   refine LJ_skip rfl rfl ?_
   refine LJ_skip rfl rfl ?_
   refine LJ_skip rfl rfl ?_
   refine LJ_skip rfl rfl ?_
   refine LJ_y rfl rfl (YJ_pickF rfl rfl) ?_
   refine LJ_y rfl rfl (YJ_assign rfl) ?_
   refine LJ_nil ?_
   refine QJ_then ?_
   refine CJ_ret ?_
   refine QJ_fin (.inl rfl) (μ' := []) (μr := _) (φ' := []) (res_tmp rfl rfl) (List.Perm.refl _) (fun _ h => nomatch h) ?_
   exact ⟨congrArg Value.bool (by first | (symm; rw [decide_eq_false_iff_not]; unfold hld; simp only [*, not_true_eq_false, not_false_eq_true, false_and, and_false, true_and]) | (unfold hld; simp [*])), rfl, rfl⟩
 ·simp only [decide_eq_true_eq, Bool.not_eq_false'] at h20
  refine LJ_skip rfl rfl ?_
  refine LJ_skip rfl rfl ?_
  refine LJ_skip rfl rfl ?_
  refine LJ_skip rfl rfl ?_
  refine LJ_skip rfl rfl ?_
  refine LJ_y rfl rfl (YJ_pickF rfl rfl) ?_
  refine LJ_y rfl rfl (YJ_move rfl) ?_
  refine LJ_skip rfl rfl ?_
  refine LJ_skip rfl rfl ?_
  refine LJ_skip rfl rfl ?_
  refine LJ_skip rfl rfl ?_
  refine LJ_skip rfl rfl ?_
  refine LJ_y rfl rfl (YJ_pickF rfl rfl) ?_
  refine LJ_y rfl rfl (YJ_assign rfl) ?_
  refine LJ_nil ?_
  refine QJ_then ?_
  refine CJ_ret ?_
  refine QJ_fin (.inl rfl) (μ' := []) (μr := _) (φ' := []) (res_tmp rfl rfl) (List.Perm.refl _) (fun _ h => nomatch h) ?_
  exact ⟨congrArg Value.bool (by first | (symm; rw [decide_eq_false_iff_not]; unfold hld; simp only [*, not_true_eq_false, not_false_eq_true, false_and, and_false, true_and]) | (unfold hld; simp [*])), rfl, rfl⟩
end Go.Proofs.Ytbanlhlggkdanaa
namespace Go.Proofs.Ytbanlhlggkdanaa
open Go.RowKit
theorem ent_56 : Enter Try.prog 56 = true := by kernel_rfl
theorem zer_42 : zer Try.prog 42 = some (.agg #[.int .i64 0, .int .i64 0, .int .i64 0, .int .i64 0]) := by kernel_rfl
theorem lay_42 : lay1 Try.prog 42 = some [.int .i64 0, .int .i64 0, .int .i64 0, .int .i64 0] := by kernel_rfl
theorem tyi_42 : tyi Try.prog 42 = some (true, 4) := by kernel_rfl
abbrev Pl := Int × Int × Int × Int
def plV (x : Pl) : Value := .agg #[.int .i64 x.1, .int .i64 x.2.1, .int .i64 x.2.2.1, .int .i64 x.2.2.2]
def edge (pts : List (Int × Int)) (t : Tr) (k : Nat) (p : Int × Int) : Prop :=
 A2 (ptAt pts (t.v ((k + 1) % 3))).1 (ptAt pts (t.v ((k + 1) % 3))).2 (ptAt pts (t.v ((k + 2) % 3))).1 (ptAt pts (t.v ((k + 2) % 3))).2 p.1 p.2 = 0
instance (pts : List (Int × Int)) (t : Tr) (k : Nat) (p : Int × Int) : Decidable (edge pts t k p) := inferInstanceAs (Decidable (_ = _))
def place (pts : List (Int × Int)) (t : Tr) (i : Int) (p : Int × Int) : Pl :=
 if ptAt pts t.v0 = p then (2, i, t.v0, 0) else if ptAt pts t.v1 = p then (2, i, t.v1, 0) else if ptAt pts t.v2 = p then (2, i, t.v2, 0)
 else if edge pts t 0 p then (1, i, min t.v1 t.v2, max t.v1 t.v2) else if edge pts t 1 p then (1, i, min t.v2 t.v0, max t.v2 t.v0) else if edge pts t 2 p then (1, i, min t.v0 t.v1, max t.v0 t.v1)
 else (0, i, 0, 0)
theorem pt_eq {q p : Int × Int} (h : q.1 = p.1 ∧ q.2 = p.2) : q = p := Prod.ext h.1 h.2
set_option maxRecDepth 100000 in
set_option maxHeartbeats 8000000 in
theorem within_c {B : Nat} {h : Mh} {pts : List (Int × Int)} {tris : List Tr} {t : Tr} {i : Int} {p1 p2 : Int} (hP : ∀ j, j < pts.length → P2 (pts.getD j (0, 0)).1 (pts.getD j (0, 0)).2) (hi : 0 ≤ i) (ht : tris[i.toNat]? = some t) (hv : t.ok pts.length) (hp : P2 p1 p2) : Tri Try.prog 56 [.pointer (some ⟨B, 0, none⟩), .int .i64 i, ptv p1 p2] [] (meshFs B h pts tris) (Ret0 (plV (place pts t i (p1, p2)))) := by
 refine Tri_of (N := 79) Try.func56 rfl ent_56 rfl rfl ?_
 intro w0 S0 T0
 show CJ _ _ _ [(0, _), (1, _), (2, _)] _ _
 have hlen : i.toNat < tris.length := by
  rcases Nat.lt_or_ge i.toNat tris.length with q | q
  ·exact q
  ·rw [List.getElem?_eq_none q] at ht; cases ht
 obtain ⟨⟨v0, w0_⟩, ⟨v1, w1_⟩, ⟨v2, w2_⟩⟩ := hv
 have g0 := hP (t.v0).toNat (by omega)
 have g1 := hP (t.v1).toNat (by omega)
 have g2 := hP (t.v2).toNat (by omega)
 refine CJ_seq ?_
 refine CJ_reg ?_
 refine LJ_box (cs := #[_, _]) rfl rfl rfl rfl ?_
 intro b1
 refine LJ_alloc (cs := #[_, _, _, _]) rfl rfl zer_42 rfl ?_
 intro b2
 refine LJ_nil ?_
 refine QJ_then ?_
 refine CJ_seq ?_
 refine CJ_reg ?_
 refine LJ_y rfl rfl (YJ_move rfl) ?_
 refine LJ_y rfl rfl (YJ_nilCheck rfl) ?_
 refine LJ_y rfl rfl (YJ_fieldOwn rfl fld_57_1 rfl) ?_
 refine LJ_y rfl rfl (YJ_loadFactP (A := some ⟨B, 0, none⟩) (j := 1) rfl rfl tyi_54 m0 rfl) ?_
 refine LJ_y rfl rfl (YJ_move rfl) ?_
 refine LJ_y rfl rfl (YJ_ixFact rfl rfl elt_54 m2 (by decide) (by omega) (by omega) (by omega)) ?_
 refine LJ_y rfl rfl (YJ_fieldAddr rfl fld_37_0) ?_
 refine LJ_y rfl rfl (YJ_loadFactNP (A := h.T) (j := i.toNat * 9) (vs := [.int .i64 t.v0, .int .i64 t.v1, .int .i64 t.v2]) rfl (Addr.add_add ..) tyi_34 m2 (trCells_v ht) rfl) ?_
 refine LJ_alloc (cs := #[_, _, _]) rfl rfl zer_34 rfl ?_
 intro b3
 refine LJ_store (cs' := #[_, _, _]) (μ' := [_, _, _]) 0 rfl rfl rfl rfl tyi_34 rfl (Nat.le_of_ble_eq_true rfl) rfl rfl rfl ?_
 refine LJ_nil ?_
 refine QJ_then ?_
 refine CJ_seq ?_
 refine CJ_seq ?_
 refine CJ_reg ?_
 refine LJ_y rfl rfl (YJ_loadN (vs := [_, _, _]) rfl tyi_34 m0 rfl rfl) ?_
 refine LJ_y rfl rfl (YJ_move rfl) ?_
 refine LJ_nil ?_
 refine QJ_then ?_
 refine CJ_block ?_
 refine CJ_loopN 4 ?_
 refine CN_succ ?_
 refine CJ_seq ?_
 refine CJ_reg ?_
 refine LJ_y rfl rfl (YJ_bin rfl rfl rfl) ?_
 refine LJ_nil ?_
 refine QJ_then ?_
 refine CJ_seq ?_
 refine CJ_condT rfl ?_
 refine CJ_skip ?_
 refine QJ_then ?_
 refine CJ_seq ?_
 refine CJ_block ?_
 refine CJ_seq ?_
 refine CJ_reg ?_
 refine LJ_y rfl rfl (YJ_index1 rfl rfl arrt_34 tyi_3 (by omega) (by omega) rfl) ?_
 refine LJ_y rfl rfl (YJ_assign rfl) ?_
 refine LJ_nil ?_
 refine QJ_then ?_
 refine CJ_seq ?_
 refine CJ_regD mix (by kernel_rfl) (fun _ _ _ _ _ h => h) _ _ (fun _ h => h) (fun _ h => h) ?_
 refine AJ_y 0 rfl (by kernel_rfl) (by kernel_rfl) rfl rfl (YJ_move rfl) ?_
 refine AJ_y 1 rfl (by kernel_rfl) (by kernel_rfl) rfl rfl (YJ_nilCheck rfl) ?_
 refine AJ_y 2 rfl (by kernel_rfl) (by kernel_rfl) rfl rfl (YJ_fieldOwn rfl fld_57_0 rfl) ?_
 refine AJ_y 3 rfl (by kernel_rfl) (by kernel_rfl) rfl rfl (YJ_loadFactP (A := some ⟨B, 0, none⟩) (j := 0) rfl rfl tyi_26 m0 rfl) ?_
 refine AJ_y 4 rfl (by kernel_rfl) (by kernel_rfl) rfl rfl (YJ_move rfl) ?_
 refine AJ_y 5 rfl (by kernel_rfl) (by kernel_rfl) rfl rfl (YJ_ixFact rfl rfl elt_26 m1 (by decide) (by omega) (by omega) (by omega)) ?_
 refine AJ_y 6 rfl (by kernel_rfl) (by kernel_rfl) rfl rfl (YJ_loadFactN (vs := [_, _]) (xs := ptCells pts) rfl tyi_23 m1 (ptCells_get (i := (t.v0).toNat) (by omega)) rfl) ?_
 refine AJ_y 7 rfl (by kernel_rfl) (by kernel_rfl) rfl rfl (YJ_loadN (vs := [_, _]) rfl tyi_23 m2 rfl rfl) ?_
 refine AJ_y 8 rfl (by kernel_rfl) (by kernel_rfl) rfl rfl (YJ_eqs rfl rfl (fun _ => eqs_eql_23 ..)) ?_
 refine AJ_done (by kernel_rfl) ?_
 refine QJ_then ?_
 refine CJ_cond rfl (fun h33 => ?_) (fun h33 => ?_)
 ·simp only [decide_eq_true_eq, Bool.and_eq_true] at h33
  have q0 : ptAt pts t.v0 = (p1, p2) := pt_eq h33
  refine CJ_seq ?_
  refine CJ_reg ?_
  refine LJ_y rfl rfl (YJ_move rfl) ?_
  refine LJ_y rfl rfl (YJ_move rfl) ?_
  refine LJ_y rfl rfl (YJ_build1 (cs := [_, _, _, _]) lay_42 rfl rfl rfl) ?_
  refine LJ_store (cs' := #[_, _, _, _]) (μ' := [_, _, _]) 1 rfl rfl rfl rfl tyi_42 rfl (Nat.le_of_ble_eq_true rfl) rfl rfl rfl ?_
  refine LJ_nil ?_
  refine QJ_then ?_
  refine CJ_ret ?_
  refine QJ_in_ret ?_
  refine QJ_then_ret ?_
  refine QJ_then_ret ?_
  refine QJ_in_ret ?_
  refine QJ_then_ret ?_
  refine QJ_fin (.inl rfl) (μ' := []) (μr := _) (φ' := []) (res_cell (vs := [_, _, _, _]) rfl rfl m1 tyi_42 rfl) (List.Perm.refl _) (fun _ h => nomatch h) ?_
  exact ⟨(congrArg plV (show place pts t i (p1, p2) = (_, _, _, _) from by unfold place; simp only [*, if_true, if_false, not_true_eq_false, not_false_eq_true]; try rfl)).symm, rfl, rfl⟩
 ·simp only [decide_eq_false_iff_not, Bool.and_eq_false_iff] at h33
  have q0 : ¬ ptAt pts t.v0 = (p1, p2) := fun e => by
   have e1 := congrArg Prod.fst e
   have e2 := congrArg Prod.snd e
   rcases h33 with h | h
   ·exact h e1
   ·exact h e2
  refine CJ_skip ?_
  refine QJ_in_normal ?_
  refine QJ_then ?_
  refine CJ_reg ?_
  refine LJ_y rfl rfl (YJ_bin rfl rfl (iop_add (by omega))) ?_
  refine LJ_y rfl rfl (YJ_move rfl) ?_
  refine LJ_nil ?_
  refine QJ_thenN ?_
  refine CN_succ ?_
  refine CJ_seq ?_
  refine CJ_reg ?_
  refine LJ_y rfl rfl (YJ_bin rfl rfl rfl) ?_
  refine LJ_nil ?_
  refine QJ_then ?_
  refine CJ_seq ?_
  refine CJ_condT rfl ?_
  refine CJ_skip ?_
  refine QJ_then ?_
  refine CJ_seq ?_
  refine CJ_block ?_
  refine CJ_seq ?_
  refine CJ_reg ?_
  refine LJ_y rfl rfl (YJ_index1 rfl rfl arrt_34 tyi_3 (by omega) (by omega) rfl) ?_
  refine LJ_y rfl rfl (YJ_assign rfl) ?_
  refine LJ_nil ?_
  refine QJ_then ?_
  refine CJ_seq ?_
  refine CJ_regD mix (by kernel_rfl) (fun _ _ _ _ _ h => h) _ _ (fun _ h => h) (fun _ h => h) ?_
  refine AJ_y 0 rfl (by kernel_rfl) (by kernel_rfl) rfl rfl (YJ_move rfl) ?_
  refine AJ_y 1 rfl (by kernel_rfl) (by kernel_rfl) rfl rfl (YJ_nilCheck rfl) ?_
  refine AJ_y 2 rfl (by kernel_rfl) (by kernel_rfl) rfl rfl (YJ_fieldOwn rfl fld_57_0 rfl) ?_
  refine AJ_y 3 rfl (by kernel_rfl) (by kernel_rfl) rfl rfl (YJ_loadFactP (A := some ⟨B, 0, none⟩) (j := 0) rfl rfl tyi_26 m0 rfl) ?_
  refine AJ_y 4 rfl (by kernel_rfl) (by kernel_rfl) rfl rfl (YJ_move rfl) ?_
  refine AJ_y 5 rfl (by kernel_rfl) (by kernel_rfl) rfl rfl (YJ_ixFact rfl rfl elt_26 m1 (by decide) (by omega) (by omega) (by omega)) ?_
  refine AJ_y 6 rfl (by kernel_rfl) (by kernel_rfl) rfl rfl (YJ_loadFactN (vs := [_, _]) (xs := ptCells pts) rfl tyi_23 m1 (ptCells_get (i := (t.v1).toNat) (by omega)) rfl) ?_
  refine AJ_y 7 rfl (by kernel_rfl) (by kernel_rfl) rfl rfl (YJ_loadN (vs := [_, _]) rfl tyi_23 m2 rfl rfl) ?_
  refine AJ_y 8 rfl (by kernel_rfl) (by kernel_rfl) rfl rfl (YJ_eqs rfl rfl (fun _ => eqs_eql_23 ..)) ?_
  refine AJ_done (by kernel_rfl) ?_
  refine QJ_then ?_
  refine CJ_cond rfl (fun h33 => ?_) (fun h33 => ?_)
  ·simp only [decide_eq_true_eq, Bool.and_eq_true] at h33
   have q1 : ptAt pts t.v1 = (p1, p2) := pt_eq h33
   refine CJ_seq ?_
   refine CJ_reg ?_
   refine LJ_y rfl rfl (YJ_move rfl) ?_
   refine LJ_y rfl rfl (YJ_move rfl) ?_
   refine LJ_y rfl rfl (YJ_build1 (cs := [_, _, _, _]) lay_42 rfl rfl rfl) ?_
   refine LJ_store (cs' := #[_, _, _, _]) (μ' := [_, _, _]) 1 rfl rfl rfl rfl tyi_42 rfl (Nat.le_of_ble_eq_true rfl) rfl rfl rfl ?_
   refine LJ_nil ?_
   refine QJ_then ?_
   refine CJ_ret ?_
   refine QJ_in_ret ?_
   refine QJ_then_ret ?_
   refine QJ_then_ret ?_
   refine QJ_in_ret ?_
   refine QJ_then_ret ?_
   refine QJ_fin (.inl rfl) (μ' := []) (μr := _) (φ' := []) (res_cell (vs := [_, _, _, _]) rfl rfl m1 tyi_42 rfl) (List.Perm.refl _) (fun _ h => nomatch h) ?_
   exact ⟨(congrArg plV (show place pts t i (p1, p2) = (_, _, _, _) from by unfold place; simp only [*, if_true, if_false, not_true_eq_false, not_false_eq_true]; try rfl)).symm, rfl, rfl⟩
  ·simp only [decide_eq_false_iff_not, Bool.and_eq_false_iff] at h33
   have q1 : ¬ ptAt pts t.v1 = (p1, p2) := fun e => by
    have e1 := congrArg Prod.fst e
    have e2 := congrArg Prod.snd e
    rcases h33 with h | h
    ·exact h e1
    ·exact h e2
   refine CJ_skip ?_
   refine QJ_in_normal ?_
   refine QJ_then ?_
   refine CJ_reg ?_
   refine LJ_y rfl rfl (YJ_bin rfl rfl (iop_add (by omega))) ?_
   refine LJ_y rfl rfl (YJ_move rfl) ?_
   refine LJ_nil ?_
   refine QJ_thenN ?_
   refine CN_succ ?_
   refine CJ_seq ?_
   refine CJ_reg ?_
   refine LJ_y rfl rfl (YJ_bin rfl rfl rfl) ?_
   refine LJ_nil ?_
   refine QJ_then ?_
   refine CJ_seq ?_
   refine CJ_condT rfl ?_
   refine CJ_skip ?_
   refine QJ_then ?_
   refine CJ_seq ?_
   refine CJ_block ?_
   refine CJ_seq ?_
   refine CJ_reg ?_
   refine LJ_y rfl rfl (YJ_index1 rfl rfl arrt_34 tyi_3 (by omega) (by omega) rfl) ?_
   refine LJ_y rfl rfl (YJ_assign rfl) ?_
   refine LJ_nil ?_
   refine QJ_then ?_
   refine CJ_seq ?_
   refine CJ_regD mix (by kernel_rfl) (fun _ _ _ _ _ h => h) _ _ (fun _ h => h) (fun _ h => h) ?_
   refine AJ_y 0 rfl (by kernel_rfl) (by kernel_rfl) rfl rfl (YJ_move rfl) ?_
   refine AJ_y 1 rfl (by kernel_rfl) (by kernel_rfl) rfl rfl (YJ_nilCheck rfl) ?_
   refine AJ_y 2 rfl (by kernel_rfl) (by kernel_rfl) rfl rfl (YJ_fieldOwn rfl fld_57_0 rfl) ?_
   refine AJ_y 3 rfl (by kernel_rfl) (by kernel_rfl) rfl rfl (YJ_loadFactP (A := some ⟨B, 0, none⟩) (j := 0) rfl rfl tyi_26 m0 rfl) ?_
   refine AJ_y 4 rfl (by kernel_rfl) (by kernel_rfl) rfl rfl (YJ_move rfl) ?_
   refine AJ_y 5 rfl (by kernel_rfl) (by kernel_rfl) rfl rfl (YJ_ixFact rfl rfl elt_26 m1 (by decide) (by omega) (by omega) (by omega)) ?_
   refine AJ_y 6 rfl (by kernel_rfl) (by kernel_rfl) rfl rfl (YJ_loadFactN (vs := [_, _]) (xs := ptCells pts) rfl tyi_23 m1 (ptCells_get (i := (t.v2).toNat) (by omega)) rfl) ?_
   refine AJ_y 7 rfl (by kernel_rfl) (by kernel_rfl) rfl rfl (YJ_loadN (vs := [_, _]) rfl tyi_23 m2 rfl rfl) ?_
   refine AJ_y 8 rfl (by kernel_rfl) (by kernel_rfl) rfl rfl (YJ_eqs rfl rfl (fun _ => eqs_eql_23 ..)) ?_
   refine AJ_done (by kernel_rfl) ?_
   refine QJ_then ?_
   refine CJ_cond rfl (fun h33 => ?_) (fun h33 => ?_)
   ·simp only [decide_eq_true_eq, Bool.and_eq_true] at h33
    have q2 : ptAt pts t.v2 = (p1, p2) := pt_eq h33
    refine CJ_seq ?_
    refine CJ_reg ?_
    refine LJ_y rfl rfl (YJ_move rfl) ?_
    refine LJ_y rfl rfl (YJ_move rfl) ?_
    refine LJ_y rfl rfl (YJ_build1 (cs := [_, _, _, _]) lay_42 rfl rfl rfl) ?_
    refine LJ_store (cs' := #[_, _, _, _]) (μ' := [_, _, _]) 1 rfl rfl rfl rfl tyi_42 rfl (Nat.le_of_ble_eq_true rfl) rfl rfl rfl ?_
    refine LJ_nil ?_
    refine QJ_then ?_
    refine CJ_ret ?_
    refine QJ_in_ret ?_
    refine QJ_then_ret ?_
    refine QJ_then_ret ?_
    refine QJ_in_ret ?_
    refine QJ_then_ret ?_
    refine QJ_fin (.inl rfl) (μ' := []) (μr := _) (φ' := []) (res_cell (vs := [_, _, _, _]) rfl rfl m1 tyi_42 rfl) (List.Perm.refl _) (fun _ h => nomatch h) ?_
    exact ⟨(congrArg plV (show place pts t i (p1, p2) = (_, _, _, _) from by unfold place; simp only [*, if_true, if_false, not_true_eq_false, not_false_eq_true]; try rfl)).symm, rfl, rfl⟩
   ·simp only [decide_eq_false_iff_not, Bool.and_eq_false_iff] at h33
    have q2 : ¬ ptAt pts t.v2 = (p1, p2) := fun e => by
     have e1 := congrArg Prod.fst e
     have e2 := congrArg Prod.snd e
     rcases h33 with h | h
     ·exact h e1
     ·exact h e2
    refine CJ_skip ?_
    refine QJ_in_normal ?_
    refine QJ_then ?_
    refine CJ_reg ?_
    refine LJ_y rfl rfl (YJ_bin rfl rfl (iop_add (by omega))) ?_
    refine LJ_y rfl rfl (YJ_move rfl) ?_
    refine LJ_nil ?_
    refine QJ_thenN ?_
    refine CN_succ ?_
    refine CJ_seq ?_
    refine CJ_reg ?_
    refine LJ_y rfl rfl (YJ_bin rfl rfl rfl) ?_
    refine LJ_nil ?_
    refine QJ_then ?_
    refine CJ_seq ?_
    refine CJ_condF rfl ?_
    refine CJ_exit ?_
    refine QJ_then_exit ?_
    refine QJ_then_exit ?_
    refine QJ_in_exit ?_
    refine QJ_then ?_
    refine CJ_seq ?_
    refine CJ_seq ?_
    refine CJ_reg ?_
    refine LJ_y rfl rfl (YJ_move rfl) ?_
    refine LJ_nil ?_
    refine QJ_then ?_
    refine CJ_block ?_
    refine CJ_loopN 4 ?_
    refine CN_succ ?_
    refine CJ_seq ?_
    refine CJ_reg ?_
    refine LJ_y rfl rfl (YJ_bin rfl rfl rfl) ?_
    refine LJ_nil ?_
    refine QJ_then ?_
    refine CJ_seq ?_
    refine CJ_condT rfl ?_
    refine CJ_skip ?_
    refine QJ_then ?_
    refine CJ_seq ?_
    refine CJ_block ?_
    refine CJ_seq ?_
    refine CJ_reg ?_
    refine LJ_y rfl rfl (YJ_move rfl) ?_
    refine LJ_y rfl rfl (YJ_assign rfl) ?_
    refine LJ_nil ?_
    refine QJ_then ?_
    refine CJ_seq ?_
    refine CJ_regD mix (by kernel_rfl) (fun _ _ _ _ _ h => h) _ _ (fun _ h => h) (fun _ h => h) ?_
    refine AJ_y 0 rfl (by kernel_rfl) (by kernel_rfl) rfl rfl (YJ_move rfl) ?_
    refine AJ_y 1 rfl (by kernel_rfl) (by kernel_rfl) rfl rfl (YJ_bin rfl rfl (iop_add (by omega))) ?_
    refine AJ_y 2 rfl (by kernel_rfl) (by kernel_rfl) rfl rfl (YJ_rem rfl rfl (by first | decide | omega)) ?_
    refine AJ_val (v := .int .i64 1) (rfl) ?_
    refine AJ_y 3 rfl (by kernel_rfl) (by kernel_rfl) rfl rfl (YJ_ixArr rfl rfl arrt_34 (by omega) (by omega) rfl) ?_
    refine AJ_y 4 rfl (by kernel_rfl) (by kernel_rfl) rfl rfl (YJ_loadL rfl tyi_3 m0 rfl) ?_
    refine AJ_y 5 rfl (by kernel_rfl) (by kernel_rfl) rfl rfl (YJ_move rfl) ?_
    refine AJ_y 6 rfl (by kernel_rfl) (by kernel_rfl) rfl rfl (YJ_bin rfl rfl (iop_add (by omega))) ?_
    refine AJ_y 7 rfl (by kernel_rfl) (by kernel_rfl) rfl rfl (YJ_rem rfl rfl (by first | decide | omega)) ?_
    refine AJ_val (v := .int .i64 2) (rfl) ?_
    refine AJ_y 8 rfl (by kernel_rfl) (by kernel_rfl) rfl rfl (YJ_ixArr rfl rfl arrt_34 (by omega) (by omega) rfl) ?_
    refine AJ_y 9 rfl (by kernel_rfl) (by kernel_rfl) rfl rfl (YJ_loadL rfl tyi_3 m0 rfl) ?_
    refine AJ_y 10 rfl (by kernel_rfl) (by kernel_rfl) rfl rfl (YJ_assign rfl) ?_
    refine AJ_y 11 rfl (by kernel_rfl) (by kernel_rfl) rfl rfl (YJ_assign rfl) ?_
    refine AJ_done (by kernel_rfl) ?_
    refine QJ_then ?_
    refine CJ_seq ?_
    refine CJ_regD mix (by kernel_rfl) (fun _ _ _ _ _ h => h) _ _ (fun _ h => h) (fun _ h => h) ?_
    refine AJ_y 0 rfl (by kernel_rfl) (by kernel_rfl) rfl rfl (YJ_move rfl) ?_
    refine AJ_y 1 rfl (by kernel_rfl) (by kernel_rfl) rfl rfl (YJ_nilCheck rfl) ?_
    refine AJ_y 2 rfl (by kernel_rfl) (by kernel_rfl) rfl rfl (YJ_fieldOwn rfl fld_57_0 rfl) ?_
    refine AJ_y 3 rfl (by kernel_rfl) (by kernel_rfl) rfl rfl (YJ_loadFactP (A := some ⟨B, 0, none⟩) (j := 0) rfl rfl tyi_26 m0 rfl) ?_
    refine AJ_y 4 rfl (by kernel_rfl) (by kernel_rfl) rfl rfl (YJ_move rfl) ?_
    refine AJ_y 5 rfl (by kernel_rfl) (by kernel_rfl) rfl rfl (YJ_ixFact rfl rfl elt_26 m1 (by decide) (by omega) (by omega) (by omega)) ?_
    refine AJ_y 6 rfl (by kernel_rfl) (by kernel_rfl) rfl rfl (YJ_loadFactN (vs := [_, _]) (xs := ptCells pts) rfl tyi_23 m1 (ptCells_get (i := (t.v1).toNat) (by omega)) rfl) ?_
    refine AJ_y 7 rfl (by kernel_rfl) (by kernel_rfl) rfl rfl (YJ_move rfl) ?_
    refine AJ_y 8 rfl (by kernel_rfl) (by kernel_rfl) rfl rfl (YJ_nilCheck rfl) ?_
    refine AJ_y 9 rfl (by kernel_rfl) (by kernel_rfl) rfl rfl (YJ_fieldOwn rfl fld_57_0 rfl) ?_
    refine AJ_y 10 rfl (by kernel_rfl) (by kernel_rfl) rfl rfl (YJ_loadFactP (A := some ⟨B, 0, none⟩) (j := 0) rfl rfl tyi_26 m0 rfl) ?_
    refine AJ_y 11 rfl (by kernel_rfl) (by kernel_rfl) rfl rfl (YJ_move rfl) ?_
    refine AJ_y 12 rfl (by kernel_rfl) (by kernel_rfl) rfl rfl (YJ_ixFact rfl rfl elt_26 m1 (by decide) (by omega) (by omega) (by omega)) ?_
    refine AJ_y 13 rfl (by kernel_rfl) (by kernel_rfl) rfl rfl (YJ_loadFactN (vs := [_, _]) (xs := ptCells pts) rfl tyi_23 m1 (ptCells_get (i := (t.v2).toNat) (by omega)) rfl) ?_
    refine AJ_y 14 rfl (by kernel_rfl) (by kernel_rfl) rfl rfl (YJ_loadN (vs := [_, _]) rfl tyi_23 m2 rfl rfl) ?_
    refine AJ_call0 15 rfl (by kernel_rfl) rfl rfl rfl rfl rfl (orient_c g1 g2 hp) (AllIn.sub (by first | exact trivial | exact And.intro (by repeat first | exact .head _ | apply List.Mem.tail) trivial | exact And.intro (by repeat first | exact .head _ | apply List.Mem.tail) (And.intro (by repeat first | exact .head _ | apply List.Mem.tail) trivial))) ?_
    refine AJ_y 16 rfl (by kernel_rfl) (by kernel_rfl) rfl rfl (YJ_bin rfl rfl rfl) ?_
    refine AJ_done (by kernel_rfl) ?_
    refine QJ_then ?_
    refine CJ_cond rfl (fun h67 => ?_) (fun h67 => ?_)
    ·simp only [decide_eq_true_eq] at h67
     have e0 : edge pts t 0 (p1, p2) := sgn_zero.1 h67
     refine CJ_seq ?_
     refine CJ_reg ?_
     refine LJ_y rfl rfl (YJ_move rfl) ?_
     refine LJ_y rfl rfl (YJ_move rfl) ?_
     refine LJ_y rfl rfl (YJ_move rfl) ?_
     refine LJ_y rfl rfl (YJ_min2 rfl rfl) ?_
     refine LJ_y rfl rfl (YJ_move rfl) ?_
     refine LJ_y rfl rfl (YJ_move rfl) ?_
     refine LJ_y rfl rfl (YJ_max2 rfl rfl) ?_
     refine LJ_y rfl rfl (YJ_build1 (cs := [_, _, _, _]) lay_42 rfl rfl rfl) ?_
     refine LJ_store (cs' := #[_, _, _, _]) (μ' := [_, _, _]) 1 rfl rfl rfl rfl tyi_42 rfl (Nat.le_of_ble_eq_true rfl) rfl rfl rfl ?_
     refine LJ_nil ?_
     refine QJ_then ?_
     refine CJ_ret ?_
     refine QJ_in_ret ?_
     refine QJ_then_ret ?_
     refine QJ_then_ret ?_
     refine QJ_in_ret ?_
     refine QJ_then_ret ?_
     refine QJ_fin (.inl rfl) (μ' := []) (μr := _) (φ' := []) (res_cell (vs := [_, _, _, _]) rfl rfl m1 tyi_42 rfl) (List.Perm.refl _) (fun _ h => nomatch h) ?_
     exact ⟨(congrArg plV (show place pts t i (p1, p2) = (_, _, _, _) from by unfold place; simp only [*, if_true, if_false, not_true_eq_false, not_false_eq_true]; try rfl)).symm, rfl, rfl⟩
    ·simp only [decide_eq_false_iff_not] at h67
     have e0 : ¬ edge pts t 0 (p1, p2) := fun e => h67 (sgn_zero.2 e)
     refine CJ_skip ?_
     refine QJ_in_normal ?_
     refine QJ_then ?_
     refine CJ_reg ?_
     refine LJ_y rfl rfl (YJ_bin rfl rfl (iop_add (by omega))) ?_
     refine LJ_y rfl rfl (YJ_move rfl) ?_
     refine LJ_nil ?_
     refine QJ_thenN ?_
     refine CN_succ ?_
     refine CJ_seq ?_
     refine CJ_reg ?_
     refine LJ_y rfl rfl (YJ_bin rfl rfl rfl) ?_
     refine LJ_nil ?_
     refine QJ_then ?_
     refine CJ_seq ?_
     refine CJ_condT rfl ?_
     refine CJ_skip ?_
     refine QJ_then ?_
     refine CJ_seq ?_
     refine CJ_block ?_
     refine CJ_seq ?_
     refine CJ_reg ?_
     refine LJ_y rfl rfl (YJ_move rfl) ?_
     refine LJ_y rfl rfl (YJ_assign rfl) ?_
     refine LJ_nil ?_
     refine QJ_then ?_
     refine CJ_seq ?_
     refine CJ_regD mix (by kernel_rfl) (fun _ _ _ _ _ h => h) _ _ (fun _ h => h) (fun _ h => h) ?_
     refine AJ_y 0 rfl (by kernel_rfl) (by kernel_rfl) rfl rfl (YJ_move rfl) ?_
     refine AJ_y 1 rfl (by kernel_rfl) (by kernel_rfl) rfl rfl (YJ_bin rfl rfl (iop_add (by omega))) ?_
     refine AJ_y 2 rfl (by kernel_rfl) (by kernel_rfl) rfl rfl (YJ_rem rfl rfl (by first | decide | omega)) ?_
     refine AJ_val (v := .int .i64 2) (rfl) ?_
     refine AJ_y 3 rfl (by kernel_rfl) (by kernel_rfl) rfl rfl (YJ_ixArr rfl rfl arrt_34 (by omega) (by omega) rfl) ?_
     refine AJ_y 4 rfl (by kernel_rfl) (by kernel_rfl) rfl rfl (YJ_loadL rfl tyi_3 m0 rfl) ?_
     refine AJ_y 5 rfl (by kernel_rfl) (by kernel_rfl) rfl rfl (YJ_move rfl) ?_
     refine AJ_y 6 rfl (by kernel_rfl) (by kernel_rfl) rfl rfl (YJ_bin rfl rfl (iop_add (by omega))) ?_
     refine AJ_y 7 rfl (by kernel_rfl) (by kernel_rfl) rfl rfl (YJ_rem rfl rfl (by first | decide | omega)) ?_
     refine AJ_val (v := .int .i64 0) (rfl) ?_
     refine AJ_y 8 rfl (by kernel_rfl) (by kernel_rfl) rfl rfl (YJ_ixArr rfl rfl arrt_34 (by omega) (by omega) rfl) ?_
     refine AJ_y 9 rfl (by kernel_rfl) (by kernel_rfl) rfl rfl (YJ_loadL rfl tyi_3 m0 rfl) ?_
     refine AJ_y 10 rfl (by kernel_rfl) (by kernel_rfl) rfl rfl (YJ_assign rfl) ?_
     refine AJ_y 11 rfl (by kernel_rfl) (by kernel_rfl) rfl rfl (YJ_assign rfl) ?_
     refine AJ_done (by kernel_rfl) ?_
     refine QJ_then ?_
     refine CJ_seq ?_
     refine CJ_regD mix (by kernel_rfl) (fun _ _ _ _ _ h => h) _ _ (fun _ h => h) (fun _ h => h) ?_
     refine AJ_y 0 rfl (by kernel_rfl) (by kernel_rfl) rfl rfl (YJ_move rfl) ?_
     refine AJ_y 1 rfl (by kernel_rfl) (by kernel_rfl) rfl rfl (YJ_nilCheck rfl) ?_
     refine AJ_y 2 rfl (by kernel_rfl) (by kernel_rfl) rfl rfl (YJ_fieldOwn rfl fld_57_0 rfl) ?_
     refine AJ_y 3 rfl (by kernel_rfl) (by kernel_rfl) rfl rfl (YJ_loadFactP (A := some ⟨B, 0, none⟩) (j := 0) rfl rfl tyi_26 m0 rfl) ?_
     refine AJ_y 4 rfl (by kernel_rfl) (by kernel_rfl) rfl rfl (YJ_move rfl) ?_
     refine AJ_y 5 rfl (by kernel_rfl) (by kernel_rfl) rfl rfl (YJ_ixFact rfl rfl elt_26 m1 (by decide) (by omega) (by omega) (by omega)) ?_
     refine AJ_y 6 rfl (by kernel_rfl) (by kernel_rfl) rfl rfl (YJ_loadFactN (vs := [_, _]) (xs := ptCells pts) rfl tyi_23 m1 (ptCells_get (i := (t.v2).toNat) (by omega)) rfl) ?_
     refine AJ_y 7 rfl (by kernel_rfl) (by kernel_rfl) rfl rfl (YJ_move rfl) ?_
     refine AJ_y 8 rfl (by kernel_rfl) (by kernel_rfl) rfl rfl (YJ_nilCheck rfl) ?_
     refine AJ_y 9 rfl (by kernel_rfl) (by kernel_rfl) rfl rfl (YJ_fieldOwn rfl fld_57_0 rfl) ?_
     refine AJ_y 10 rfl (by kernel_rfl) (by kernel_rfl) rfl rfl (YJ_loadFactP (A := some ⟨B, 0, none⟩) (j := 0) rfl rfl tyi_26 m0 rfl) ?_
     refine AJ_y 11 rfl (by kernel_rfl) (by kernel_rfl) rfl rfl (YJ_move rfl) ?_
     refine AJ_y 12 rfl (by kernel_rfl) (by kernel_rfl) rfl rfl (YJ_ixFact rfl rfl elt_26 m1 (by decide) (by omega) (by omega) (by omega)) ?_
     refine AJ_y 13 rfl (by kernel_rfl) (by kernel_rfl) rfl rfl (YJ_loadFactN (vs := [_, _]) (xs := ptCells pts) rfl tyi_23 m1 (ptCells_get (i := (t.v0).toNat) (by omega)) rfl) ?_
     refine AJ_y 14 rfl (by kernel_rfl) (by kernel_rfl) rfl rfl (YJ_loadN (vs := [_, _]) rfl tyi_23 m2 rfl rfl) ?_
     refine AJ_call0 15 rfl (by kernel_rfl) rfl rfl rfl rfl rfl (orient_c g2 g0 hp) (AllIn.sub (by first | exact trivial | exact And.intro (by repeat first | exact .head _ | apply List.Mem.tail) trivial | exact And.intro (by repeat first | exact .head _ | apply List.Mem.tail) (And.intro (by repeat first | exact .head _ | apply List.Mem.tail) trivial))) ?_
     refine AJ_y 16 rfl (by kernel_rfl) (by kernel_rfl) rfl rfl (YJ_bin rfl rfl rfl) ?_
     refine AJ_done (by kernel_rfl) ?_
     refine QJ_then ?_
     refine CJ_cond rfl (fun h67 => ?_) (fun h67 => ?_)
     ·simp only [decide_eq_true_eq] at h67
      have e1 : edge pts t 1 (p1, p2) := sgn_zero.1 h67
      refine CJ_seq ?_
      refine CJ_reg ?_
      refine LJ_y rfl rfl (YJ_move rfl) ?_
      refine LJ_y rfl rfl (YJ_move rfl) ?_
      refine LJ_y rfl rfl (YJ_move rfl) ?_
      refine LJ_y rfl rfl (YJ_min2 rfl rfl) ?_
      refine LJ_y rfl rfl (YJ_move rfl) ?_
      refine LJ_y rfl rfl (YJ_move rfl) ?_
      refine LJ_y rfl rfl (YJ_max2 rfl rfl) ?_
      refine LJ_y rfl rfl (YJ_build1 (cs := [_, _, _, _]) lay_42 rfl rfl rfl) ?_
      refine LJ_store (cs' := #[_, _, _, _]) (μ' := [_, _, _]) 1 rfl rfl rfl rfl tyi_42 rfl (Nat.le_of_ble_eq_true rfl) rfl rfl rfl ?_
      refine LJ_nil ?_
      refine QJ_then ?_
      refine CJ_ret ?_
      refine QJ_in_ret ?_
      refine QJ_then_ret ?_
      refine QJ_then_ret ?_
      refine QJ_in_ret ?_
      refine QJ_then_ret ?_
      refine QJ_fin (.inl rfl) (μ' := []) (μr := _) (φ' := []) (res_cell (vs := [_, _, _, _]) rfl rfl m1 tyi_42 rfl) (List.Perm.refl _) (fun _ h => nomatch h) ?_
      exact ⟨(congrArg plV (show place pts t i (p1, p2) = (_, _, _, _) from by unfold place; simp only [*, if_true, if_false, not_true_eq_false, not_false_eq_true]; try rfl)).symm, rfl, rfl⟩
     ·simp only [decide_eq_false_iff_not] at h67
      have e1 : ¬ edge pts t 1 (p1, p2) := fun e => h67 (sgn_zero.2 e)
      refine CJ_skip ?_
      refine QJ_in_normal ?_
      refine QJ_then ?_
      refine CJ_reg ?_
      refine LJ_y rfl rfl (YJ_bin rfl rfl (iop_add (by omega))) ?_
      refine LJ_y rfl rfl (YJ_move rfl) ?_
      refine LJ_nil ?_
      refine QJ_thenN ?_
      refine CN_succ ?_
      refine CJ_seq ?_
      refine CJ_reg ?_
      refine LJ_y rfl rfl (YJ_bin rfl rfl rfl) ?_
      refine LJ_nil ?_
      refine QJ_then ?_
      refine CJ_seq ?_
      refine CJ_condT rfl ?_
      refine CJ_skip ?_
      refine QJ_then ?_
      refine CJ_seq ?_
      refine CJ_block ?_
      refine CJ_seq ?_
      refine CJ_reg ?_
      refine LJ_y rfl rfl (YJ_move rfl) ?_
      refine LJ_y rfl rfl (YJ_assign rfl) ?_
      refine LJ_nil ?_
      refine QJ_then ?_
      refine CJ_seq ?_
      refine CJ_regD mix (by kernel_rfl) (fun _ _ _ _ _ h => h) _ _ (fun _ h => h) (fun _ h => h) ?_
      refine AJ_y 0 rfl (by kernel_rfl) (by kernel_rfl) rfl rfl (YJ_move rfl) ?_
      refine AJ_y 1 rfl (by kernel_rfl) (by kernel_rfl) rfl rfl (YJ_bin rfl rfl (iop_add (by omega))) ?_
      refine AJ_y 2 rfl (by kernel_rfl) (by kernel_rfl) rfl rfl (YJ_rem rfl rfl (by first | decide | omega)) ?_
      refine AJ_val (v := .int .i64 0) (rfl) ?_
      refine AJ_y 3 rfl (by kernel_rfl) (by kernel_rfl) rfl rfl (YJ_ixArr rfl rfl arrt_34 (by omega) (by omega) rfl) ?_
      refine AJ_y 4 rfl (by kernel_rfl) (by kernel_rfl) rfl rfl (YJ_loadL rfl tyi_3 m0 rfl) ?_
      refine AJ_y 5 rfl (by kernel_rfl) (by kernel_rfl) rfl rfl (YJ_move rfl) ?_
      refine AJ_y 6 rfl (by kernel_rfl) (by kernel_rfl) rfl rfl (YJ_bin rfl rfl (iop_add (by omega))) ?_
      refine AJ_y 7 rfl (by kernel_rfl) (by kernel_rfl) rfl rfl (YJ_rem rfl rfl (by first | decide | omega)) ?_
      refine AJ_val (v := .int .i64 1) (rfl) ?_
      refine AJ_y 8 rfl (by kernel_rfl) (by kernel_rfl) rfl rfl (YJ_ixArr rfl rfl arrt_34 (by omega) (by omega) rfl) ?_
      refine AJ_y 9 rfl (by kernel_rfl) (by kernel_rfl) rfl rfl (YJ_loadL rfl tyi_3 m0 rfl) ?_
      refine AJ_y 10 rfl (by kernel_rfl) (by kernel_rfl) rfl rfl (YJ_assign rfl) ?_
      refine AJ_y 11 rfl (by kernel_rfl) (by kernel_rfl) rfl rfl (YJ_assign rfl) ?_
      refine AJ_done (by kernel_rfl) ?_
      refine QJ_then ?_
      refine CJ_seq ?_
      refine CJ_regD mix (by kernel_rfl) (fun _ _ _ _ _ h => h) _ _ (fun _ h => h) (fun _ h => h) ?_
      refine AJ_y 0 rfl (by kernel_rfl) (by kernel_rfl) rfl rfl (YJ_move rfl) ?_
      refine AJ_y 1 rfl (by kernel_rfl) (by kernel_rfl) rfl rfl (YJ_nilCheck rfl) ?_
      refine AJ_y 2 rfl (by kernel_rfl) (by kernel_rfl) rfl rfl (YJ_fieldOwn rfl fld_57_0 rfl) ?_
      refine AJ_y 3 rfl (by kernel_rfl) (by kernel_rfl) rfl rfl (YJ_loadFactP (A := some ⟨B, 0, none⟩) (j := 0) rfl rfl tyi_26 m0 rfl) ?_
      refine AJ_y 4 rfl (by kernel_rfl) (by kernel_rfl) rfl rfl (YJ_move rfl) ?_
      refine AJ_y 5 rfl (by kernel_rfl) (by kernel_rfl) rfl rfl (YJ_ixFact rfl rfl elt_26 m1 (by decide) (by omega) (by omega) (by omega)) ?_
      refine AJ_y 6 rfl (by kernel_rfl) (by kernel_rfl) rfl rfl (YJ_loadFactN (vs := [_, _]) (xs := ptCells pts) rfl tyi_23 m1 (ptCells_get (i := (t.v0).toNat) (by omega)) rfl) ?_
      refine AJ_y 7 rfl (by kernel_rfl) (by kernel_rfl) rfl rfl (YJ_move rfl) ?_
      refine AJ_y 8 rfl (by kernel_rfl) (by kernel_rfl) rfl rfl (YJ_nilCheck rfl) ?_
      refine AJ_y 9 rfl (by kernel_rfl) (by kernel_rfl) rfl rfl (YJ_fieldOwn rfl fld_57_0 rfl) ?_
      refine AJ_y 10 rfl (by kernel_rfl) (by kernel_rfl) rfl rfl (YJ_loadFactP (A := some ⟨B, 0, none⟩) (j := 0) rfl rfl tyi_26 m0 rfl) ?_
      refine AJ_y 11 rfl (by kernel_rfl) (by kernel_rfl) rfl rfl (YJ_move rfl) ?_
      refine AJ_y 12 rfl (by kernel_rfl) (by kernel_rfl) rfl rfl (YJ_ixFact rfl rfl elt_26 m1 (by decide) (by omega) (by omega) (by omega)) ?_
      refine AJ_y 13 rfl (by kernel_rfl) (by kernel_rfl) rfl rfl (YJ_loadFactN (vs := [_, _]) (xs := ptCells pts) rfl tyi_23 m1 (ptCells_get (i := (t.v1).toNat) (by omega)) rfl) ?_
      refine AJ_y 14 rfl (by kernel_rfl) (by kernel_rfl) rfl rfl (YJ_loadN (vs := [_, _]) rfl tyi_23 m2 rfl rfl) ?_
      refine AJ_call0 15 rfl (by kernel_rfl) rfl rfl rfl rfl rfl (orient_c g0 g1 hp) (AllIn.sub (by first | exact trivial | exact And.intro (by repeat first | exact .head _ | apply List.Mem.tail) trivial | exact And.intro (by repeat first | exact .head _ | apply List.Mem.tail) (And.intro (by repeat first | exact .head _ | apply List.Mem.tail) trivial))) ?_
      refine AJ_y 16 rfl (by kernel_rfl) (by kernel_rfl) rfl rfl (YJ_bin rfl rfl rfl) ?_
      refine AJ_done (by kernel_rfl) ?_
      refine QJ_then ?_
      refine CJ_cond rfl (fun h67 => ?_) (fun h67 => ?_)
      ·simp only [decide_eq_true_eq] at h67
       have e2 : edge pts t 2 (p1, p2) := sgn_zero.1 h67
       refine CJ_seq ?_
       refine CJ_reg ?_
       refine LJ_y rfl rfl (YJ_move rfl) ?_
       refine LJ_y rfl rfl (YJ_move rfl) ?_
       refine LJ_y rfl rfl (YJ_move rfl) ?_
       refine LJ_y rfl rfl (YJ_min2 rfl rfl) ?_
       refine LJ_y rfl rfl (YJ_move rfl) ?_
       refine LJ_y rfl rfl (YJ_move rfl) ?_
       refine LJ_y rfl rfl (YJ_max2 rfl rfl) ?_
       refine LJ_y rfl rfl (YJ_build1 (cs := [_, _, _, _]) lay_42 rfl rfl rfl) ?_
       refine LJ_store (cs' := #[_, _, _, _]) (μ' := [_, _, _]) 1 rfl rfl rfl rfl tyi_42 rfl (Nat.le_of_ble_eq_true rfl) rfl rfl rfl ?_
       refine LJ_nil ?_
       refine QJ_then ?_
       refine CJ_ret ?_
       refine QJ_in_ret ?_
       refine QJ_then_ret ?_
       refine QJ_then_ret ?_
       refine QJ_in_ret ?_
       refine QJ_then_ret ?_
       refine QJ_fin (.inl rfl) (μ' := []) (μr := _) (φ' := []) (res_cell (vs := [_, _, _, _]) rfl rfl m1 tyi_42 rfl) (List.Perm.refl _) (fun _ h => nomatch h) ?_
       exact ⟨(congrArg plV (show place pts t i (p1, p2) = (_, _, _, _) from by unfold place; simp only [*, if_true, if_false, not_true_eq_false, not_false_eq_true]; try rfl)).symm, rfl, rfl⟩
      ·simp only [decide_eq_false_iff_not] at h67
       have e2 : ¬ edge pts t 2 (p1, p2) := fun e => h67 (sgn_zero.2 e)
       refine CJ_skip ?_
       refine QJ_in_normal ?_
       refine QJ_then ?_
       refine CJ_reg ?_
       refine LJ_y rfl rfl (YJ_bin rfl rfl (iop_add (by omega))) ?_
       refine LJ_y rfl rfl (YJ_move rfl) ?_
       refine LJ_nil ?_
       refine QJ_thenN ?_
       refine CN_succ ?_
       refine CJ_seq ?_
       refine CJ_reg ?_
       refine LJ_y rfl rfl (YJ_bin rfl rfl rfl) ?_
       refine LJ_nil ?_
       refine QJ_then ?_
       refine CJ_seq ?_
       refine CJ_condF rfl ?_
       refine CJ_exit ?_
       refine QJ_then_exit ?_
       refine QJ_then_exit ?_
       refine QJ_in_exit ?_
       refine QJ_then ?_
       refine CJ_seq ?_
       refine CJ_reg ?_
       refine LJ_y rfl rfl (YJ_move rfl) ?_
       refine LJ_y rfl rfl (YJ_build1 (cs := [_, _, _, _]) lay_42 rfl rfl rfl) ?_
       refine LJ_store (cs' := #[_, _, _, _]) (μ' := [_, _, _]) 1 rfl rfl rfl rfl tyi_42 rfl (Nat.le_of_ble_eq_true rfl) rfl rfl rfl ?_
       refine LJ_nil ?_
       refine QJ_then ?_
       refine CJ_ret ?_
       refine QJ_fin (.inl rfl) (μ' := []) (μr := _) (φ' := []) (res_cell (vs := [_, _, _, _]) rfl rfl m1 tyi_42 rfl) (List.Perm.refl _) (fun _ h => nomatch h) ?_
       exact ⟨(congrArg plV (show place pts t i (p1, p2) = (_, _, _, _) from by unfold place; simp only [*, if_true, if_false, not_true_eq_false, not_false_eq_true]; try rfl)).symm, rfl, rfl⟩
end Go.Proofs.Ytbanlhlggkdanaa
namespace Go.Proofs.Ytbanlhlggkdanaa
open Go.RowKit
def objR (b : Nat) (o : Obj) : Res where
 p w S := w.heap[b]? = some o ∧ ∀ k, S k ↔ k = b
 loc := fun {w w' S} ⟨h, hs⟩ hk => ⟨(hk b ((hs b).2 rfl)).trans h, hs⟩
 lt := fun {w S k} ⟨h, hs⟩ hk => by
  have e := (hs k).1 hk
  subst e
  rcases Nat.lt_or_ge k w.heap.size with h' | h'
  ·exact h'
  ·rw [Array.getElem?_eq_none h'] at h; cases h
abbrev defR (D : Nat) : Res := objR D (.deferred (some []))
def markD (D : Nat) : Deferred := { target := .collected D, args := #[] }
def TP (w0 : World) (S0 T0 : Nat → Prop) (post : Value → List Res → List Res → Prop) : Ending → World → Prop := fun e w' =>
 ∃ v μ' φ', e = .returned v ∧ post v μ' φ' ∧ Keeps S0 w0 w' ∧
   ∃ S' T' : Nat → Prop, Sep w' μ' S' ∧ Fac w' φ' T' ∧ (∀ k, S' k → ¬ T' k) ∧ (∀ k, S' k → S0 k ∨ w0.heap.size ≤ k) ∧ (∀ k, T' k → T0 k ∨ S0 k ∨ w0.heap.size ≤ k) ∧ ∀ k, T' k → k < w'.heap.size
def YTri (P : Program) (l : Nat) (args : List Value) (μ φ : List Res) (post : Value → List Res → List Res → Prop) : Prop :=
 ∀ (w : World) (S T : Nat → Prop), Sep w μ S → Fac w φ T → (∀ k, S k → ¬ T k) → (∀ k, T k → k < w.heap.size) →
  ∃ fn tmps assign body, (Instr.yield l args.toArray).run P w = .ok (.round l fn tmps assign body) w ∧ RoundIn Fence.wide 0 P l fn tmps assign body w (TP w S T post)
def ITri (P : Program) {α : Type} (gf : FuncId) (lb : List Value) (enc : α → List Value) (xs : List α) (φg : List Res) : Prop :=
 Enter P gf = true ∧ ∀ (l : Nat) (J Jx : List α → List Res → List Res → Prop) (φx : List Res),
  (∀ pre x μ φ, (pre ++ [x]) <+: xs → J pre μ φ → YTri P l (enc x) μ (φ ++ (φg ++ φx)) (fun v μ' φ' => (v = .bool true ∧ J (pre ++ [x]) μ' φ') ∨ (v = .bool false ∧ Jx (pre ++ [x]) μ' φ'))) →
  ∀ μ φ, J [] μ φ → Tri P gf (.func (.yield l) #[] #[] :: lb) μ (φ ++ (φg ++ φx)) (fun _ μ' φ' => J xs μ' φ' ∨ ∃ pre, pre <+: xs ∧ Jx pre μ' φ')
section
variable {E : Env} {Q : Qt} {σ : List (Nat × Value)} {μ φ : List Res}
theorem OKm.tp {w : World} (h : OKm E μ φ w) {μ' φ' μr : List Res} {v : Value} {post : Value → List Res → List Res → Prop} (hp : List.Perm μ (μ' ++ μr)) (hf : ∀ r, r ∈ φ' → r ∈ φ) (hpost : post v μ' φ') : TP E.w0 E.S0 E.T0 post (.returned v) w := by
 have hw := h.weak hp hf
 obtain ⟨S, T, h1, h2, h3, h4, h5, h6⟩ := hw.mem
 exact ⟨v, μ', φ', rfl, hpost, hw.keeps, S, T, h1, h2, h3, h4, h5, h6⟩
theorem OKm.lend {w : World} (hm : OKm E μ φ w) {μ1 μr φ1 : List Res} (hμ : List.Perm μ (μ1 ++ μr)) (hφ : ∀ r, r ∈ φ1 → r ∈ φ) :
  ∃ S1 T : Nat → Prop, Sep w μ1 S1 ∧ Fac w φ1 T ∧ (∀ k, S1 k → ¬ T k) ∧ (∀ k, T k → k < w.heap.size) ∧
   ∀ (w' : World) (μ' φ' : List Res), Keeps S1 w w' → (∃ S' T' : Nat → Prop, Sep w' μ' S' ∧ Fac w' φ' T' ∧ (∀ k, S' k → ¬ T' k) ∧ (∀ k, S' k → S1 k ∨ w.heap.size ≤ k) ∧ (∀ k, T' k → T k ∨ S1 k ∨ w.heap.size ≤ k) ∧ ∀ k, T' k → k < w'.heap.size) →
    OKm E (μ' ++ μr) (φ' ++ φ) w' := by
 obtain ⟨S, T, h1, h2, h3, h4, h5, h6⟩ := hm.mem
 obtain ⟨S1, S2, g1, g2, gd, gs⟩ := (h1.perm hμ).split
 refine ⟨S1, T, g1, fun r hr => h2 r (hφ r hr), fun k hk => h3 k ((gs k).2 (.inl hk)), h6, ?_⟩
 rintro w' μ' φ' hkeep ⟨S', T', k1, k2, k3, k4, k5, k6⟩
 have hS2lt : ∀ k, S2 k → k < w.heap.size := fun k hk => g2.lt hk
 have hfr : ∀ k, S2 k → w'.heap[k]? = w.heap[k]? := fun k hk => hkeep.block k (hS2lt k hk) (fun hh => gd k hh hk)
 have hd2 : ∀ k, S' k → ¬ S2 k := fun k hk hk2 => by
  rcases k4 k hk with h' | h'
  ·exact gd k h' hk2
  ·have := hS2lt k hk2; omega
 refine ⟨hm.keeps.trans hkeep (fun k hk => h4 k ((gs k).2 (.inl hk))), fun k => S' k ∨ S2 k, fun k => T' k ∨ T k, k1.app (g2.keep hfr) hd2, ?_, ?_, ?_, ?_, ?_⟩
 ·intro r hr
  rcases List.mem_append.1 hr with hr | hr
  ·obtain ⟨S3, a1, a2⟩ := k2 r hr
   exact ⟨S3, a1, fun k hk => .inl (a2 k hk)⟩
  ·obtain ⟨S3, a1, a2⟩ := h2 r hr
   exact ⟨S3, r.loc a1 (fun k hk => hkeep.block k (r.lt a1 hk) (fun hh => h3 k ((gs k).2 (.inl hh)) (a2 k hk))), fun k hk => .inr (a2 k hk)⟩
 ·rintro k (hS | hS) (hT | hT)
  ·exact k3 k hS hT
  ·rcases k4 k hS with h' | h'
   ·exact h3 k ((gs k).2 (.inl h')) hT
   ·have := h6 k hT; omega
  ·rcases k5 k hT with h' | h' | h'
   ·exact h3 k ((gs k).2 (.inr hS)) h'
   ·exact gd k h' hS
   ·have := hS2lt k hS; omega
  ·exact h3 k ((gs k).2 (.inr hS)) hT
 ·rintro k (hS | hS)
  ·rcases k4 k hS with h' | h'
   ·exact h4 k ((gs k).2 (.inl h'))
   ·exact .inr (by have := hm.keeps.size; omega)
  ·exact h4 k ((gs k).2 (.inr hS))
 ·rintro k (hT | hT)
  ·rcases k5 k hT with h' | h' | h'
   ·exact h5 k h'
   ·exact .inr (h4 k ((gs k).2 (.inl h')))
   ·exact .inr (.inr (by have := hm.keeps.size; omega))
  ·exact h5 k hT
 ·rintro k (hT | hT)
  ·exact k6 k hT
  ·exact Nat.lt_of_lt_of_le (h6 k hT) hkeep.size
theorem OKm.newObj {w : World} (h : OKm E μ φ w) (o : Obj) : OKm E (objR w.heap.size o :: μ) φ (w.alloc o) := by
 have h' := h.step (Keeps.alloc w o _)
 obtain ⟨S, T, h1, h2, h3, h4, h5, h6⟩ := h.mem
 have hk : ∀ k, k < w.heap.size → (w.alloc o).heap[k]? = w.heap[k]? := fun k hk => Below.heap_alloc w _ k hk
 refine ⟨h'.keeps, fun k => k = w.heap.size ∨ S k, T, ⟨fun k => k = w.heap.size, S, ⟨heap_alloc_new w _, fun _ => Iff.rfl⟩, h1.keep (fun k hS => hk k (h1.lt hS)), fun k e hS => ?_, fun _ => Iff.rfl⟩, fun r hr => ?_, fun k hS hT => ?_, fun k hS => ?_, h5, fun k hT => by have := h6 k hT; simp; omega⟩
 ·have := h1.lt hS; omega
 ·obtain ⟨S', a, b⟩ := h2 r hr
  exact ⟨S', r.loc a (fun k hS => hk k (r.lt a hS)), b⟩
 ·rcases hS with e | hS
  ·have := h6 k hT; omega
  ·exact h3 k hS hT
 ·rcases hS with e | hS
  ·exact .inr (by have := h.keeps.size; omega)
  ·exact h4 k hS
theorem OKm.objAt {w : World} {b : Nat} {o : Obj} (h : OKm E (objR b o :: μ) φ w) : w.heap[b]? = some o := by
 obtain ⟨S, T, ⟨S1, S2, h1, _⟩, _⟩ := h.mem
 exact h1.1
theorem OKm.putObj {w : World} {b : Nat} {o : Obj} (h : OKm E (objR b o :: μ) φ w) (o' : Obj) : OKm E (objR b o' :: μ) φ (w.putObj b o') := by
 obtain ⟨S, T, ⟨S1, S2, ⟨k1, k2⟩, k3, k4, k5⟩, g2, g3, g4, g5, g6⟩ := h.mem
 have hSb : S b := (k5 b).2 (.inl ((k2 b).2 rfl))
 have hlt : b < w.heap.size := (Array.getElem?_eq_some_iff.1 k1).1
 have ho : ∀ k, k ≠ b → (w.putObj b o').heap[k]? = w.heap[k]? := fun k hk => World.putObj_heap_other hk
 refine ⟨⟨h.keeps.os, h.keeps.tape, h.keeps.output, by simpa using h.keeps.size, fun k hk hn => ?_⟩, S, T, ⟨S1, S2, ⟨World.putObj_heap_same hlt, k2⟩, k3.keep (fun k hS => ho k (fun e => ?_)), k4, k5⟩, ?_, g3, g4, g5, fun k hT => by simpa using g6 k hT⟩
 ·have hkb : k ≠ b := by
   rintro rfl
   rcases g4 k hSb with h' | h'
   ·exact hn h'
   ·omega
  exact (ho k hkb).trans (h.keeps.block k hk hn)
 ·subst e
  exact k4 k ((k2 k).2 rfl) hS
 ·intro r hr
  obtain ⟨S', a, b'⟩ := g2 r hr
  refine ⟨S', r.loc a (fun k hS => ho k (fun e => ?_)), b'⟩
  subst e
  exact g3 k hSb (b' k hS)
def LY (E : Env) (Q : Qt) (ops : Array Oper) (l : List Oper) (σ : List (Nat × Value)) (μ φ : List Res) : Prop := ∀ a w, OKa E σ a → OKm E μ φ w → wpListIn Fence.wide 0 E.P ops Q l a w
variable {ops : Array Oper} {rest : List Oper} {d : Tmp} {op : Op} {ty : TypeId} {pos : String} {af : Array Edge} {g : Option (Nat × Bool)}
theorem LY_nil (h : QJ E Q .normal σ μ φ) : LY E Q ops [] σ μ φ := fun a w ha hm => h a w ha hm
theorem LY_y {v : Value} (hg : grd ops σ g = some true) (hd : Nat.blt d E.N = true)
  (hy : YJ E op ty σ μ φ v) (h : LY E Q ops rest ((d, v) :: σ) μ φ) : LY E Q ops (⟨some d, op, ty, pos, af, g⟩ :: rest) σ μ φ := fun a w ha hm => by
 unfold wpListIn
 rw [if_pos (grd_wanted (o := ⟨some d, op, ty, pos, af, g⟩) ha hg)]
 refine ⟨fun _ _ => trivial, ?_⟩
 rw [show Fence.wide.round = none from rfl, Oper.semAt_none, hy a w (some d) pos af g ha.slots hm.hold.1 hm.hold.2]
 exact h _ _ (ha.put hd v) hm
theorem LY_skip (hg : grd ops σ g = some false) (hd : Nat.blt d E.N = true)
  (h : LY E Q ops rest ((d, undef) :: σ) μ φ) : LY E Q ops (⟨some d, op, ty, pos, af, g⟩ :: rest) σ μ φ := fun a w ha hm => by
 unfold wpListIn
 rw [if_neg (by rw [grd_wanted (o := ⟨some d, op, ty, pos, af, g⟩) ha hg]; simp)]
 exact ⟨fun _ _ => trivial, h _ _ (ha.put hd undef) hm⟩
theorem LY_yield {x : Operand} {xs : Array Operand} {at_ : Array TypeId} {l : Nat} {vs : List Value} {μ1 μr φ1 : List Res} {post : Value → List Res → List Res → Prop} (hg : grd ops σ g = some true) (hd : Nat.blt d E.N = true)
  (hx : oev σ x = some (.func (.yield l) #[] #[])) (hxs : oevs σ xs.toList = some vs)
  (ht : YTri E.P l vs μ1 φ1 post) (hμ : List.Perm μ (μ1 ++ μr)) (hφ : ∀ r, r ∈ φ1 → r ∈ φ)
  (h : ∀ v μ' φ', post v μ' φ' → LY E Q ops rest ((d, v) :: σ) (μ' ++ μr) (φ' ++ φ)) : LY E Q ops (⟨some d, .call { callee := .value x, args := xs, argTypes := at_ }, ty, pos, af, g⟩ :: rest) σ μ φ := fun a w ha hm => by
 unfold wpListIn
 rw [if_pos (grd_wanted (o := ⟨some d, .call { callee := .value x, args := xs, argTypes := at_ }, ty, pos, af, g⟩) ha hg)]
 refine ⟨fun _ _ => trivial, ?_⟩
 rw [show Fence.wide.round = none from rfl, Oper.semAt_none]
 obtain ⟨S1, T, h1, h2, h3, h4, h5⟩ := hm.lend hμ hφ
 obtain ⟨fn, tmps, assign, body, hy, hR⟩ := ht w S1 T h1 h2 h3 h4
 have hargs : (xs.map a.eval) = vs.toArray := by
  have := ha.slots.evs hxs
  apply Array.toList_inj.1
  simp [this]
 have hrun : (execOp a.eval ⟨some d, .call { callee := .value x, args := xs, argTypes := at_ }, ty, pos, af, g⟩).run E.P w = .ok (.round l fn tmps assign body) w := by
  simp only [execOp, resolve, ha.slots.ev hx, Deferred.ofValue, Sem.run_bind, Sem.run_pure, Result.andThen_ok, invoke]
  have e : (#[] ++ Array.map a.eval xs) = vs.toArray := by rw [← hargs]; simp
  rw [e]
  exact hy
 rw [hrun, Oper.uponIn_round]
 refine ⟨fun hh => (by simp [Fence.wide] at hh), hR.mono ?_⟩
 rintro e w' ⟨v, μ', φ', rfl, hpost, hkeep, hrest⟩
 exact h v μ' φ' hpost _ _ (ha.put hd v) (h5 w' μ' φ' hkeep hrest)
theorem LY_boolC {b : Bool} (ht : b = true → LY E Q ops rest ((d, .bool true) :: σ) μ φ) (hf : b = false → LY E Q ops rest ((d, .bool false) :: σ) μ φ) : LY E Q ops rest ((d, .bool b) :: σ) μ φ := by
 cases b
 ·exact hf rfl
 ·exact ht rfl
theorem in_wide {P : Program} {o : Oper} {a : Act} {w : World} {K : Act → World → Prop} {Q : Exit → Act → World → Prop} (h : Oper.wp P o a w K Q) : Oper.wpIn Fence.wide 0 P o a w K Q := by
 refine ⟨fun _ _ => trivial, ?_⟩
 rw [show Fence.wide.round = none from rfl, Oper.semAt_none]
 unfold Oper.wp at h
 generalize (execOp a.eval o).run P w = r at *
 cases r with
 | ok nx w' =>
  cases nx with
  | value v => exact h
  | skip => exact h
  | defer d => exact h
  | enter f args => exact ⟨fun hh => (by simp [Fence.wide] at hh), callsIn_wide.2 h⟩
  | row r args => exact ⟨fun hh => (by simp [Fence.wide] at hh), fun c cs _ => let ⟨v, w', r, s⟩ := h c cs; ⟨v, w', r, stepsIn_wide.2 s⟩⟩
  | _ => exact h.elim
 | halt x w' => cases x <;> first | exact h | exact h.elim
theorem LY_o {X : Value → List Res → List Res → Prop} (hg : grd ops σ g = some true) (hd : Nat.blt d E.N = true)
  (ho : OJ E op ty σ μ φ X) (h : ∀ v μ' φ', X v μ' φ' → LY E Q ops rest ((d, v) :: σ) μ' φ') : LY E Q ops (⟨some d, op, ty, pos, af, g⟩ :: rest) σ μ φ := fun a w ha hm => by
 unfold wpListIn
 rw [if_pos (grd_wanted (o := ⟨some d, op, ty, pos, af, g⟩) ha hg)]
 exact in_wide (ho a w _ _ _ _ _ _ ha.slots hm fun v μ' φ' w' hx hm' => h v μ' φ' hx _ _ (ha.put hd v) hm')
theorem LY_call0 {x : Operand} {xs : Array Operand} {at_ : Array TypeId} {f : FuncId} {cap : Array Value} {vs vs' : List Value} {φ1 : List Res} {v0 : Value} (hg : grd ops σ g = some true) (hd : Nat.blt d E.N = true)
  (hx : oev σ x = some (.func (.func f) #[] cap)) (hxs : oevs σ xs.toList = some vs) (hv : vs ++ cap.toList = vs') (ht : Tri E.P f vs' [] φ1 (Ret0 v0)) (hφ : ∀ r, r ∈ φ1 → r ∈ φ)
  (h : LY E Q ops rest ((d, v0) :: σ) μ φ) : LY E Q ops (⟨some d, .call { callee := .value x, args := xs, argTypes := at_ }, ty, pos, af, g⟩ :: rest) σ μ φ := by
 subst hv
 exact LY_o hg hd (OJ_call (μr := μ) hx hxs ht (List.Perm.refl _) hφ) (by rintro _ _ _ ⟨_, _, ⟨rfl, rfl, rfl⟩, rfl, rfl⟩; exact h)
theorem YJ_makeFunc {f : Fn} {fs cs : Array Operand} {vs us : List Value} (hf : oevs σ fs.toList = some vs) (hc : oevs σ cs.toList = some us) : YJ E (.makeFunc f fs cs) ty σ μ φ (.func f vs.toArray us.toArray) := fun a w d pos af g hs _ _ => by
 have h1 : fs.map a.eval = vs.toArray := by
  have := hs.evs hf
  apply Array.toList_inj.1
  simp [this]
 have h2 : cs.map a.eval = us.toArray := by
  have := hs.evs hc
  apply Array.toList_inj.1
  simp [this]
 simp only [execOp]
 rw [h1, h2]
 simp [Instr.makeFunc]
theorem CJ_regY {id : Nat} {l : List Oper} (h : LY E Q l.toArray l σ μ φ) : CJ E Q (.region id l.toArray false) σ μ φ := fun a w ha hm => (wpIn_wide (n := 0)).1 (wpIn_region_lit (h a w ha hm))
def putS : List (Nat × Value) → List (Nat × Value) → List (Nat × Value)
 | [], σ => σ
 | (p, v) :: r, σ => putS r ((p, v) :: σ)
theorem putS_ok : ∀ (l : List (Nat × Value)) {σ : List (Nat × Value)} {a : Act}, OKa E σ a → l.all (fun p => Nat.blt p.1 E.N) = true →
  OKa E (putS l σ) { a with tmps := l.foldl (fun t (p, v) => t.setIfInBounds p v) a.tmps }
 | [], _, _, h, _ => h
 | (p, v) :: r, σ, a, h, hb => by
  rw [List.all_cons, Bool.and_eq_true] at hb
  exact putS_ok r (h.put hb.1 v) hb.2
def recL (fn : FuncId) (tmps : Array Value) (ps : Array Tmp) (assign body : Code) (D : Nat) (st : LoopState) (jump : Option Code) : Obj :=
 .loop { state := st, pending := jump, fn, tmps, params := ps, assign, body, defers := D }
theorem no_round {P : Program} {l : Nat} {R : Ending → World → Prop} : ¬ LetsOut (roundPost P l R) := fun ⟨_, _, h⟩ => h
theorem no_begin {K : Act → World → Prop} : ¬ LetsOut (Exit.then K fun _ _ _ => False) := fun ⟨_, _, h⟩ => h
abbrev RPost (E : Env) (l : Nat) (post : Value → List Res → List Res → Prop) : Qt := roundPost E.P l (TP E.w0 E.S0 E.T0 post)
abbrev Begun (E : Env) (l : Nat) (body : Code) (post : Value → List Res → List Res → Prop) : Qt :=
 Exit.then (fun a₁ w₁ => ∃ w₂, (Instr.beginRound l).run E.P w₁ = .ok () w₂ ∧ body.wpIn (Fence.wide.inRound l) 0 E.P (RPost E l post) a₁ w₂) (fun _ _ _ => False)
theorem QJ_begin {l : Nat} {body : Code} {post : Value → List Res → List Res → Prop} {fn : FuncId} {tmps : Array Value} {ps : Array Tmp} {asg bd : Code} {D : Nat} {μr : List Res}
  (hp : List.Perm μ (objR l (recL fn tmps ps asg bd D .ready none) :: μr)) (h : RJ l 0 E (RPost E l post) body σ (objR l (recL fn tmps ps asg bd D .busy none) :: μr) φ) : QJ E (Begun E l body post) .normal σ μ φ := fun a w ha hm => by
 have hm' : OKm E (objR l (recL fn tmps ps asg bd D .ready none) :: μr) φ w := hm.weak (μr := []) (by simpa using hp) (fun _ h => h)
 exact ⟨_, run_beginRound hm'.objAt rfl, h no_round a _ ha (hm'.putObj _)⟩
theorem QJ_again {l : Nat} {post : Value → List Res → List Res → Prop} {fn : FuncId} {tmps : Array Value} {ps : Array Tmp} {asg bd : Code} {D : Nat} {μ1 μ2 φ1 : List Res}
  (hp : List.Perm μ (objR l (recL fn tmps ps asg bd D .busy none) :: (μ1 ++ μ2))) (hf : ∀ r, r ∈ φ1 → r ∈ φ) (h : post (.bool true) (objR l (recL fn tmps ps asg bd D .ready none) :: μ1) φ1) : QJ E (RPost E l post) .normal σ μ φ := fun a w ha hm => by
 have hm' : OKm E (objR l (recL fn tmps ps asg bd D .busy none) :: (μ1 ++ μ2)) φ w := hm.weak (μr := []) (by simpa using hp) (fun _ h => h)
 exact ⟨_, _, run_endRound none hm'.objAt, (hm'.putObj _).tp (μr := μ2) (by simp [recL]) hf h⟩
def jumpOf : Exit → Option Code
 | .ret => some .ret
 | .exit id => some (.exit id)
 | _ => none
theorem QJ_leave {l : Nat} {post : Value → List Res → List Res → Prop} {fn : FuncId} {tmps : Array Value} {ps : Array Tmp} {asg bd : Code} {D : Nat} {μ1 μ2 φ1 : List Res} {e : Exit} {j : Code} (he : jumpOf e = some j)
  (hp : List.Perm μ (objR l (recL fn tmps ps asg bd D .busy none) :: (μ1 ++ μ2))) (hf : ∀ r, r ∈ φ1 → r ∈ φ) (h : post (.bool false) (objR l (recL fn tmps ps asg bd D .done (some j)) :: μ1) φ1) : QJ E (RPost E l post) e σ μ φ := fun a w ha hm => by
 have hm' : OKm E (objR l (recL fn tmps ps asg bd D .busy none) :: (μ1 ++ μ2)) φ w := hm.weak (μr := []) (by simpa using hp) (fun _ h => h)
 have key : ∃ v w', (Instr.endRound l (some j)).run E.P w = .ok v w' ∧ TP E.w0 E.S0 E.T0 post (.returned v) w' :=
  ⟨_, _, run_endRound (some j) hm'.objAt, (hm'.putObj _).tp (μr := μ2) (by simp [recL]) hf h⟩
 cases e <;> simp [jumpOf] at he <;> subst he <;> exact key
structure LpS (α : Type) where
 ι : Type
 I : List α → ι → Prop
 F : List α → ι → List Res × List Res
 κ : Type
 Ix : Code → List α → κ → Prop
 Fx : Code → κ → List Res × List Res
def LpS.post {α : Type} (L : LpS α) (l D : Nat) (fn : FuncId) (tmps : Array Value) (ps : Array Tmp) (asg bd : Code) (pre : List α) : Value → List Res → List Res → Prop := fun v μ' φ' =>
 (v = .bool true ∧ ∃ i, L.I pre i ∧ μ' = objR l (recL fn tmps ps asg bd D .ready none) :: defR D :: (L.F pre i).1 ∧ φ' = (L.F pre i).2) ∨
 (v = .bool false ∧ ∃ c i, L.Ix c pre i ∧ μ' = objR l (recL fn tmps ps asg bd D .done (some c)) :: defR D :: (L.Fx c i).1 ∧ φ' = (L.Fx c i).2)
theorem CJ_rangeFunc {α : Type} {x : Operand} {ps : Array Tmp} {assign body : Code} {gf : FuncId} {lb : Array Value} {enc : α → List Value} {xs : List α} {φg : List Res}
  (hx : oev σ x = some (.func (.func gf) #[] lb)) (hit : ITri E.P gf lb.toList enc xs φg) (hφg : ∀ r, r ∈ φg → r ∈ φ)
  (hN : ∀ x, (enc x).length = ps.size) (hps : ps.toList.all (fun p => Nat.blt p E.N) = true) (L : LpS α) (i0 : L.ι) (h0 : L.I [] i0) {μr : List Res} (hp : List.Perm μ ((L.F [] i0).1 ++ μr)) (hf : ∀ r, r ∈ (L.F [] i0).2 → r ∈ φ)
  (hround : ∀ (l D : Nat) (fn : FuncId) (tmps : Array Value) (W : World) (S T : Nat → Prop) (pre : List α) (x : α) (i : L.ι), (pre ++ [x]) <+: xs → L.I pre i →
   RJ l 0 ⟨E.P, W, S, T, E.N, []⟩ (Begun ⟨E.P, W, S, T, E.N, []⟩ l body (L.post l D fn tmps ps assign body (pre ++ [x]))) assign (putS (ps.toList.zip (enc x)) σ) (objR l (recL fn tmps ps assign body D .ready none) :: defR D :: (L.F pre i).1) ((L.F pre i).2 ++ φ))
  (hdone : ∀ (D : Nat) (i : L.ι), L.I xs i → QJ { E with ds := markD D :: E.ds } Q .normal σ (defR D :: ((L.F xs i).1 ++ μr)) ((L.F xs i).2 ++ φ))
  (hstop : ∀ (D : Nat) (c : Code) (pre : List α) (i : L.κ), pre <+: xs → L.Ix c pre i → CJ { E with ds := markD D :: E.ds } Q c σ (defR D :: ((L.Fx c i).1 ++ μr)) ((L.Fx c i).2 ++ φ)) :
  CJ E Q (.rangeFunc x ps assign body) σ μ φ := fun a w ha hm => (wpIn_wide (n := 0)).1 <| wpIn_rangeFunc <| by
 intro fn _
 have hent := hit.1
 obtain ⟨D, hD⟩ : ∃ D, w.heap.size = D := ⟨_, rfl⟩
 have hm1 := (hm.newObj (.deferred (some []))).newObj (recL fn a.tmps ps assign body w.heap.size .ready none)
 obtain ⟨W1, hW1⟩ : ∃ W1, (w.alloc (.deferred (some []))).alloc (recL fn a.tmps ps assign body w.heap.size .ready none) = W1 := ⟨_, rfl⟩
 rw [hW1, World.size_alloc, hD] at hm1
 refine ⟨D + 1, [markD D], W1, { target := .fn (.func gf) lb, args := #[.func (.yield (D + 1)) #[] #[]] }, W1, gf, #[.func (.yield (D + 1)) #[] #[]] ++ lb, W1, ?_, ?_, fun _ _ => trivial, ?_, fun hh => (by simp [Fence.wide] at hh), ?_⟩
 ·rw [← hW1, ← hD]
  exact run_enterLoop_outer fn a.tmps ps assign body
 ·simp only [resolve, ha.slots.ev hx]
  simp [go_sem]
 ·simp [invoke, go_sem, run_enter hent]
 ·rw [callsIn_wide]
  obtain ⟨S1, T, h1, h2, h3, h4, h5⟩ := hm1.lend (μ1 := objR (D + 1) (recL fn a.tmps ps assign body D .ready none) :: defR D :: (L.F [] i0).1) (μr := μr) (φ1 := (L.F [] i0).2 ++ (φg ++ φ))
   ((hp.cons _).cons _) (fun r hr => by
    rcases List.mem_append.1 hr with hr | hr
    ·exact hf r hr
    ·rcases List.mem_append.1 hr with hr | hr
     ·exact hφg r hr
     ·exact hr)
  have hT := hit.2 (D + 1) (fun pre μ φ' => ∃ i, L.I pre i ∧ μ = objR (D + 1) (recL fn a.tmps ps assign body D .ready none) :: defR D :: (L.F pre i).1 ∧ φ' = (L.F pre i).2)
   (fun pre μ φ' => ∃ c i, L.Ix c pre i ∧ μ = objR (D + 1) (recL fn a.tmps ps assign body D .done (some c)) :: defR D :: (L.Fx c i).1 ∧ φ' = (L.Fx c i).2) φ ?_ _ _ ⟨i0, h0, rfl, rfl⟩
  ·have ha1 : (#[Value.func (.yield (D + 1)) #[] #[]] ++ lb) = (Value.func (.yield (D + 1)) #[] #[] :: lb.toList).toArray := by
    apply Array.toList_inj.1; simp
   rw [ha1]
   refine (hT.2 W1 S1 T h1 h2 h3 h4).mono ?_
   rintro e w' ⟨v, μ', φ', rfl, hpost, hkeep, hrest⟩
   have hm2 := h5 w' μ' φ' hkeep hrest
   have hOKa : OKa { E with ds := markD D :: E.ds } σ { a with defers := [markD D] ++ a.defers } := ⟨by rw [ha.defs]; rfl, ha.siz, ha.slots⟩
   rcases hpost with ⟨i, hI, rfl, rfl⟩ | ⟨pre, hpre, c, i, hI, rfl, rfl⟩
   ·have hm3 : OKm E (objR (D + 1) (recL fn a.tmps ps assign body D .ready none) :: (defR D :: (L.F xs i).1 ++ μr)) ((L.F xs i).2 ++ φ) w' := hm2
    refine ⟨none, _, run_endLoop hm3.objAt (by simp), ?_⟩
    have hm4 := (hm3.putObj (.loop { state := .exhausted, pending := none, fn := fn, tmps := a.tmps, params := ps, assign := assign, body := body, defers := D })).weak (μ' := defR D :: ((L.F xs i).1 ++ μr)) (μr := [objR (D + 1) (.loop { state := .exhausted, pending := none, fn := fn, tmps := a.tmps, params := ps, assign := assign, body := body, defers := D })]) (List.perm_append_singleton _ _).symm (fun r h => h)
    exact hdone D i hI _ _ hOKa ⟨hm4.keeps, hm4.mem⟩
   ·have hm3 : OKm E (objR (D + 1) (recL fn a.tmps ps assign body D .done (some c)) :: (defR D :: (L.Fx c i).1 ++ μr)) ((L.Fx c i).2 ++ φ) w' := hm2
    refine ⟨some c, _, run_endLoop hm3.objAt (by simp), ?_⟩
    have hm4 := (hm3.putObj (.loop { state := .exhausted, pending := some c, fn := fn, tmps := a.tmps, params := ps, assign := assign, body := body, defers := D })).weak (μ' := defR D :: ((L.Fx c i).1 ++ μr)) (μr := [objR (D + 1) (.loop { state := .exhausted, pending := some c, fn := fn, tmps := a.tmps, params := ps, assign := assign, body := body, defers := D })]) (List.perm_append_singleton _ _).symm (fun r h => h)
    exact (wpIn_wide (n := 0)).2 (hstop D c pre i hpre hI _ _ hOKa ⟨hm4.keeps, hm4.mem⟩)
  ·rintro pre x μ' φ' hpre ⟨i, hI, rfl, rfl⟩ w2 S T hS hT hd hlt
   obtain ⟨S1, S2, k1, _⟩ := hS
   have hy := run_yield (P := E.P) (args := (enc x).toArray) k1.1 (by simpa using hN x)
   refine ⟨_, _, _, _, hy, roundIn_of_wpIn trivial ?_⟩
   refine hround (D + 1) D fn a.tmps w2 S T pre x i hpre hI no_begin _ w2 ?_ ⟨Keeps.refl _ _, S, T, ⟨S1, S2, k1, by assumption⟩, ?_, hd, fun k h => .inl h, fun k h => .inl h, hlt⟩
   ·have e : ((ps.zip (enc x).toArray).foldl (fun tmps (p : Tmp × Value) => tmps.setIfInBounds p.1 p.2) a.tmps) = (ps.toList.zip (enc x)).foldl (fun t (p : Tmp × Value) => t.setIfInBounds p.1 p.2) a.tmps := by
     rw [← Array.foldl_toList, Array.toList_zip]
    show OKa _ _ { tmps := (ps.zip (enc x).toArray).foldl (fun tmps (p : Tmp × Value) => tmps.setIfInBounds p.1 p.2) a.tmps, defers := [] }
    rw [e]
    refine putS_ok (E := ⟨E.P, w2, S, T, E.N, []⟩) (ps.toList.zip (enc x)) (a := { tmps := a.tmps, defers := [] }) ⟨rfl, ha.siz, ha.slots⟩ ?_
    rw [List.all_eq_true]
    rintro ⟨p, v⟩ hpv
    exact List.all_eq_true.1 hps p (List.of_mem_zip hpv).1
   ·intro r hr
    rcases List.mem_append.1 hr with hr | hr
    ·exact hT r (List.mem_append_left _ hr)
    ·exact hT r (List.mem_append_right _ (List.mem_append_right _ hr))
def FinM (P : Program) (fn : Func) (w0 : World) (S0 T0 : Nat → Prop) (post : Value → List Res → List Res → Prop) : Qt
 | .normal, a, w | .ret, a, w => LeavesInM Fence.wide 0 P fn a.tmps (TP w0 S0 T0 post) a.defers .returning w
 | _, _, _ => False
theorem FinM.post {P : Program} {fn : Func} {w0 : World} {S0 T0 : Nat → Prop} {post : Value → List Res → List Res → Prop} : ∀ e a w, FinM P fn w0 S0 T0 post e a w → bodyPostM Fence.wide 0 P fn (TP w0 S0 T0 post) e a w := fun e a w h => by
 cases e <;> first | exact h | exact h.elim
theorem Tri_ofM {P : Program} {f : FuncId} {fn : Func} {c : Code} {args : List Value} {μ φ : List Res} {post : Value → List Res → List Res → Prop} (hf : P.funcs[f]? = some fn) (hb : fn.body = some c) (hE : Enter P f = true)
  {N : Nat} (hN : fn.ntmps = N) (hl : Nat.ble args.length N = true)
  (h : ∀ (w0 : World) (S0 T0 : Nat → Prop), CJ ⟨P, w0, S0, T0, N, []⟩ (FinM P fn w0 S0 T0 post) c (initS 0 args) μ φ) : Tri P f args μ φ post := by
 refine ⟨hE, fun w S T hS hT hd hlt => ?_⟩
 refine (callsIn_wide (n := 0)).1 (callsIn_of_wp_marks hf hb trivial (wpIn_mono ((wpIn_wide (n := 0)).2 ?_) FinM.post))
 have hl' : args.length ≤ fn.ntmps := by rw [hN]; exact Nat.le_of_ble_eq_true hl
 refine h w S T _ w ⟨rfl, ?_, ?_⟩ ⟨Keeps.refl _ _, S, T, hS, hT, hd, fun k hk => .inl hk, fun k hk => .inl hk, hlt⟩
 ·simp; omega
 ·intro t v hv
  obtain ⟨j, rfl, hj⟩ := initS_lk args 0 t v hv
  have hjl : j < args.length := by
   rcases Nat.lt_or_ge j args.length with h' | h'
   ·exact h'
   ·rw [List.getElem?_eq_none h'] at hj; cases hj
  simp only [Nat.zero_add]
  rw [Array.getElem?_append_left (by simpa using hjl)]
  simpa using hj
theorem leavesM {fn : Func} {tmps : Array Value} {v : Value} {post : Value → List Res → List Res → Prop} {μ' φ' μr : List Res} (hf : ∀ r, r ∈ φ' → r ∈ φ) (hpost : post v μ' φ')
  (hr : ∀ w, Hold w (μ' ++ μr) → Hold w φ → (results fn tmps).run E.P w = .ok v w) : ∀ (Ds : List Nat) (w : World), OKm E (Ds.map (fun D => defR D) ++ (μ' ++ μr)) φ w →
  LeavesInM Fence.wide 0 E.P fn tmps (TP E.w0 E.S0 E.T0 post) (Ds.map markD) .returning w
 | [], w, hm => ⟨v, hr w hm.hold.1 hm.hold.2, OKm.tp (μ' := μ') (μr := μr) hm (List.Perm.refl _) hf hpost⟩
 | D :: Ds, w, hm => by
  refine ⟨by simp, .inl ⟨D, _, rfl, run_takeDeferred hm.objAt, leavesM hf hpost hr Ds _ ?_⟩⟩
  have := hm.putObj (.deferred none)
  exact this.weak (μr := [objR D (.deferred none)]) (List.perm_append_singleton _ _).symm (fun r h => h)
theorem QJ_finM {fn : Func} {post : Value → List Res → List Res → Prop} {e : Exit} (he : e = .ret ∨ e = .normal) (Ds : List Nat) (hds : E.ds = Ds.map markD) {v : Value} {μ' φ' μr : List Res} (hr : ∀ a w, Slots σ a → Hold w (μ' ++ μr) → Hold w φ → (results fn a.tmps).run E.P w = .ok v w) (hp : List.Perm μ (Ds.map (fun D => defR D) ++ (μ' ++ μr))) (hf : ∀ r, r ∈ φ' → r ∈ φ)
  (hpost : post v μ' φ') : QJ E (FinM E.P fn E.w0 E.S0 E.T0 post) e σ μ φ := fun a w ha hm => by
 have hm' : OKm E (Ds.map (fun D => defR D) ++ (μ' ++ μr)) φ w := hm.weak (μr := []) (by simpa using hp) (fun _ h => h)
 have := leavesM (fn := fn) (tmps := a.tmps) hf hpost (fun w h1 h2 => hr a w ha.slots h1 h2) Ds w hm'
 have hd : a.defers = Ds.map markD := ha.defs.trans hds
 rcases he with rfl | rfl
 ·show LeavesInM _ _ _ _ _ _ a.defers _ _
  rw [hd]; exact this
 ·show LeavesInM _ _ _ _ _ _ a.defers _ _
  rw [hd]; exact this
end
section
variable {E : Env} {Q : Qt} {σ : List (Nat × Value)} {μ φ : List Res} {ops : Array Oper} {l n : Nat}
def pickR {α : Type} : List Nat → List α → List α
 | [], l => l
 | i :: is, l => match l[i]? with
  | some x => x :: pickR is (l.eraseIdx i)
  | none => l
theorem perm_erase {α : Type} : ∀ (l : List α) (i : Nat) (x : α), l[i]? = some x → l.Perm (x :: l.eraseIdx i)
 | [], _, _, h => by simp at h
 | y :: l, 0, x, h => by
  simp at h
  subst h
  exact List.Perm.refl _
 | y :: l, i + 1, x, h => by
  have := perm_erase l i x (by simpa using h)
  exact (this.cons y).trans (List.Perm.swap x y _)
theorem permR {α : Type} : ∀ (is : List Nat) (l : List α), l.Perm (pickR is l)
 | [], l => List.Perm.refl _
 | i :: is, l => by
  unfold pickR
  cases h : l[i]? with
  | none => exact List.Perm.refl _
  | some x =>
   exact (perm_erase l i x h).trans ((permR is _).cons _)
theorem permI {α : Type} {l l' : List α} (is : List Nat) (h : pickR is l = l') : l.Perm l' := h ▸ permR is l
def exR {ι : Type} (f : ι → List Res) : Res where
 p w S := ∃ i, Sep w (f i) S
 loc := fun {w w' S} ⟨i, h⟩ hk => ⟨i, h.keep hk⟩
 lt := fun {w S k} ⟨i, h⟩ hk => h.lt hk
theorem OKm.openEx {ι : Type} {f : ι → List Res} {w : World} (h : OKm E (exR f :: μ) φ w) : ∃ i, OKm E (f i ++ μ) φ w := by
 obtain ⟨S, T, ⟨S1, S2, ⟨i, h1⟩, h2, h3, h4⟩, r⟩ := h.mem
 have e : S = fun k => S1 k ∨ S2 k := funext fun k => propext (h4 k)
 refine ⟨i, h.keeps, S, T, ?_, r⟩
 rw [e]
 exact h1.app h2 h3
theorem OKm.closeEx {ι : Type} {f : ι → List Res} {i : ι} {w : World} (h : OKm E (f i ++ μ) φ w) : OKm E (exR f :: μ) φ w := by
 obtain ⟨S, T, h1, r⟩ := h.mem
 obtain ⟨S1, S2, g1, g2, gd, gs⟩ := h1.split
 exact ⟨h.keeps, S, T, ⟨S1, S2, ⟨i, g1⟩, g2, gd, gs⟩, r⟩
variable {Q : Qt} {rest : List Oper} {c : Code} {e : Exit} {ι : Type} {f : ι → List Res}
theorem CJ_open (h : ∀ i, CJ E Q c σ (f i ++ μ) φ) : CJ E Q c σ (exR f :: μ) φ := fun a w ha hm => let ⟨i, h'⟩ := hm.openEx; h i a w ha h'
end
end Go.Proofs.Ytbanlhlggkdanaa
namespace Go.Proofs.Ytbanlhlggkdanaa
open Go.RowKit
def rowR (e : TypeId) (size : Nat) (A : Option Addr) (n c : Nat) (xs : List Value) : Res where
 p w S := xs.length = n * size ∧ ((A = none ∧ n = 0 ∧ c = 0 ∧ ∀ k, ¬ S k) ∨
  ∃ g cur, A = some ⟨g, 0, none⟩ ∧ (∀ k, S k ↔ k = g) ∧ w.heap[g]? = some (.cells cur e (0, 0)) ∧ n ≤ c ∧ c ≤ maxLen ∧ cur.size = c * size ∧ cur.toList.take (n * size) = xs)
 loc := fun {w w' S} ⟨h, hs⟩ hk => ⟨h, by
  rcases hs with h' | ⟨g, cur, e1, e2, e3, r⟩
  ·exact .inl h'
  ·exact .inr ⟨g, cur, e1, e2, (hk g ((e2 g).2 rfl)).trans e3, r⟩⟩
 lt := fun {w S k} ⟨h, hs⟩ hk => by
  rcases hs with ⟨_, _, _, h'⟩ | ⟨g, cur, e1, e2, e3, r⟩
  ·exact absurd hk (h' k)
  ·obtain rfl := (e2 k).1 hk
   exact (Array.getElem?_eq_some_iff.1 e3).1
theorem rowR.cell {e : TypeId} {size n c : Nat} {A : Option Addr} {xs : List Value} {w : World} {S : Nat → Prop} (h : (rowR e size A n c xs).p w S) {j : Nat} {v : Value} (hj : xs[j]? = some v) : w.cell? ((adr A).add j) = some v := by
 obtain ⟨hl, hs⟩ := h
 have h1 : j < xs.length := by
  rcases Nat.lt_or_ge j xs.length with h' | h'
  ·exact h'
  ·rw [List.getElem?_eq_none h'] at hj; cases hj
 rcases hs with ⟨_, rfl, _⟩ | ⟨g, cur, rfl, _, e3, _, _, _, ht⟩
 ·rw [hl] at h1; simp at h1
 ·show w.cell? ((⟨g, 0, none⟩ : Addr).add j) = some v
  rw [Addr.add_lit, cell_of_row w g (0 + j) cur e (0, 0) e3]
  rw [← ht, List.getElem?_take] at hj
  split at hj
  ·simpa using hj
  ·cases hj
theorem rowR.slice {e : TypeId} {size n c : Nat} {A : Option Addr} {xs : List Value} {w : World} {S : Nat → Prop} (h : (rowR e size A n c xs).p w S) : ∃ S', (sliceR size A n xs).p w S' ∧ ∀ k, S' k → S k := by
 by_cases h0 : xs.length = 0
 ·exact ⟨fun _ => False, ⟨h.1, by rw [if_pos h0]; exact fun _ h => h⟩, fun k hk => hk.elim⟩
 ·refine ⟨S, ⟨h.1, ?_⟩, fun k hk => hk⟩
  rw [if_neg h0]
  have hc := fun j v hj => rowR.cell h (j := j) (v := v) hj
  rcases h.2 with ⟨_, rfl, _⟩ | ⟨g, cur, rfl, e2, e3, _⟩
  ·exact absurd (by simpa using h.1) h0
  ·exact ⟨_, rfl, e2, hc⟩
theorem row_append {P : Program} {t ty e : TypeId} {size bytes : Nat} {z : Value} (he : elt P t = some (e, size, bytes)) (hz : zer P e = some z) (hzs : z.cells.size = size) {A : Option Addr} {n c m c' : Nat} {xs news : List Value} {ad : Addr} {w : World} {S1 : Nat → Prop}
  (h : (rowR e size A n c xs).p w S1) (hl : news.length = m * size) (hnews : ∀ j u, news[j]? = some u → w.cell? (ad.add j) = some u) (h1 : ∀ u ∈ news, u.oneCell' = true) (hm : 0 < m) (h63 : n + m ≤ maxLen) (hbytes : (n + m) * bytes ≤ 140737488355328) :
  ∃ A' c2 w' S', (Builtin.append_ #[t, t] ty #[.slice A n c, .slice (some ad) m c']).run P w = .ok (.slice A' (n + m) c2) w' ∧ (rowR e size A' (n + m) c2 (xs ++ news)).p w' S' ∧ Keeps S1 w w' ∧ (∀ k, S' k → S1 k ∨ w.heap.size ≤ k) := by
 unfold elt at he
 cases hu : P.underlying t with
 | none => rw [hu] at he; simp at he
 | some d =>
  rw [hu] at he
  cases d <;> simp at he
  rename_i e'
  obtain ⟨i, hi, rfl, rfl, rfl⟩ := he
  have hz' : i.zero = some z := by
   unfold zer at hz
   rw [hi] at hz
   simpa using hz
  have hsmall : n + m ≤ 9223372036854775807 := by simp only [maxLen] at h63; omega
  have hlen : (xs ++ news).length = (n + m) * i.size := by rw [List.length_append, h.1, hl, Nat.add_mul]
  have grown : ∀ (old : Nat), old < n + m →
    (rowR e' i.size (some ⟨w.heap.size, 0, none⟩) (n + m) (grownCap w (n + m) old e') (xs ++ news)).p (w.drew.alloc (.cells (xs.toArray ++ news.toArray ++ Builtin.zeroCells z.cells (grownCap w (n + m) old e' - (n + m))) e')) (fun k => k = w.heap.size) ∧
    Keeps S1 w (w.drew.alloc (.cells (xs.toArray ++ news.toArray ++ Builtin.zeroCells z.cells (grownCap w (n + m) old e' - (n + m))) e')) := by
   intro old ho
   have hge := grownCap_ge w (n + m) old e'
   have hcm : grownCap w (n + m) old e' ≤ maxLen := grownCap_le_maxLen w (n + m) old e' h63
   refine ⟨⟨hlen, .inr ⟨w.heap.size, _, rfl, fun _ => Iff.rfl, heap_alloc_new w.drew _, hge, hcm, ?_, ?_⟩⟩, ⟨rfl, rfl, rfl, by simp, fun k hk _ => Below.heap_alloc w.drew _ k hk⟩⟩
   ·simp only [Array.size_append, List.size_toArray, size_zeroCells, hzs, h.1, hl, ← Nat.add_mul]
    congr 1
    omega
   ·simp only [Array.toList_append, List.append_assoc]
    rw [← List.append_assoc, ← hlen]
    exact List.take_left
  have hc := fun j v hj => rowR.cell h (j := j) (v := v) hj
  rcases h.2 with ⟨rfl, rfl, rfl, hS⟩ | ⟨g, cur, rfl, hS, hg, hnc, hcm, hcs, htake⟩
  ·have hx : xs = [] := List.eq_nil_of_length_eq_zero (by simpa using h.1)
   subst hx
   have hr := run_append_nil (P := P) w t ty e' i z hu hi hz' ad m c' news hl hnews hm (by omega) (by have hb := hbytes; simp only [Nat.zero_add] at hb; omega)
   have hgr := grown 0 (by omega)
   simp only [Nat.zero_add, List.nil_append, Array.empty_append] at hgr ⊢
   exact ⟨_, _, _, _, hr, hgr.1, hgr.2, fun k hk => .inr (by omega)⟩
  ·by_cases hroom : n + m ≤ c
   ·have hfit : n * i.size + news.length ≤ cur.size := by rw [hl, hcs, ← Nat.add_mul]; exact Nat.mul_le_mul_right _ hroom
    have hr := run_append_room (P := P) w t ty e' i hu hi g n c cur hg ad m c' news hl hnews h1 hroom hfit
    refine ⟨_, _, _, S1, hr, ⟨hlen, .inr ⟨g, _, rfl, hS, setRow_heap w g cur _ e' _ hg, hroom, hcm, ?_, ?_⟩⟩, ⟨rfl, rfl, rfl, by simp, fun k _ hk => setRow_other w g k _ (fun e => hk ((hS k).2 e))⟩, fun k hk => .inl hk⟩
    ·simp only [List.size_toArray, List.length_append, List.length_take, List.length_drop, Array.length_toList]
     omega
    ·rw [htake, ← hlen]
     exact List.take_left
   ·have hr := run_append_grow (P := P) w t ty e' i z hu hi hz' ⟨g, 0, none⟩ n c xs h.1 (by simpa [adr] using hc) ad m c' news hl hnews (by omega) (by omega) (growslice_fits (by omega) hbytes)
    have hgr := grown c (by omega)
    exact ⟨_, _, _, _, hr, hgr.1, hgr.2, fun k hk => .inr (by omega)⟩
theorem sep1 {r : Res} {w : World} {S : Nat → Prop} (h : r.p w S) : Sep w [r] S := ⟨S, fun _ => False, h, fun _ h => h, fun _ _ h => h, fun _ => by simp⟩
theorem fac0 {w : World} : Fac w [] (fun _ => False) := fun r hr => nomatch hr
section
variable {E : Env} {ty : TypeId} {σ : List (Nat × Value)} {μ φ : List Res}
theorem YJ_row {op : Op} {e : TypeId} {size n c : Nat} {A : Option Addr} {xs : List Value} {v : Value} (hm : rowR e size A n c xs ∈ μ) (h : YJ E op ty σ μ (sliceR size A n xs :: φ) v) : YJ E op ty σ μ φ v := fun a w d pos af g hs h1 h2 =>
 h a w d pos af g hs h1 (fun r hr => by
  rcases List.mem_cons.1 hr with rfl | hr
  ·obtain ⟨S, hS⟩ := h1 _ hm
   obtain ⟨S', h', _⟩ := rowR.slice hS
   exact ⟨S', h'⟩
  ·exact h2 r hr)
def Rd (μ φ : List Res) (B : Option Addr) (news : List Value) : Prop := ∀ w, Hold w μ → Hold w φ → ∃ ad, B = some ad ∧ ∀ j u, news[j]? = some u → w.cell? (ad.add j) = some u
theorem Rd_own {b : Nat} {cs : List Value} {t : TypeId} (hm : cellsR b cs.toArray t ∈ μ) : Rd μ φ (some ⟨b, 0, none⟩) cs := fun w h1 _ => by
 obtain ⟨S, h, _⟩ := h1 _ hm
 refine ⟨_, rfl, fun j u hj => ?_⟩
 rw [Addr.add_lit, cell_of_row w b (0 + j) cs.toArray t (0, 0) h]
 simpa using hj
theorem Rd_fact {size n : Nat} {A : Option Addr} {xs : List Value} (hm : sliceR size A n xs ∈ φ) (h0 : 0 < xs.length) : Rd μ φ A xs := fun w _ h2 => by
 obtain ⟨S, h⟩ := h2 _ hm
 exact ⟨adr A, sliceR.some_ h h0, fun j u hj => sliceR.cell h hj⟩
theorem OJ_append {t e : TypeId} {size bytes : Nat} {z : Value} {x y : Operand} {A B : Option Addr} {n c m c' : Nat} {xs news ys : List Value} {μr : List Res} (he : elt E.P t = some (e, size, bytes)) (hz : zer E.P e = some z) (hzs : z.cells.size = size)
  (hx : oev σ x = some (.slice A n c)) (hy : oev σ y = some (.slice B m c')) (hp : List.Perm μ (rowR e size A n c xs :: μr)) (hrd : Rd μ φ B news) (hl : news.length = m * size) (h1 : news.all (·.oneCell') = true) (hm : 0 < m) (h63 : n + m ≤ 1073741824) (hb : bytes ≤ 65536) (hys : xs ++ news = ys) :
  OJ E (.call { callee := .builtin .append, args := #[x, y], argTypes := #[t, t] }) ty σ μ φ (fun v μ' φ' => ∃ A' c2, v = .slice A' (n + m) c2 ∧ μ' = rowR e size A' (n + m) c2 ys :: μr ∧ φ' = φ) := fun a w d pos af g K Q hs hm0 hK => by
 subst hys
 obtain ⟨ad, rfl, hnews⟩ := hrd w hm0.hold.1 hm0.hold.2
 obtain ⟨S1, T, k1, k2, k3, k4, k5⟩ := hm0.lend (μ1 := [rowR e size A n c xs]) (μr := μr) (φ1 := []) hp (fun _ h => nomatch h)
 obtain ⟨S2, S3, q1, q2, q3, q4⟩ := k1
 have hS : S1 = S2 := funext fun k => propext ⟨fun h => ((q4 k).1 h).resolve_right (q2 k), fun h => (q4 k).2 (.inl h)⟩
 subst hS
 obtain ⟨A', c2, w', S', hr, g1, g2, g3⟩ := row_append (ty := ty) (c' := c') he hz hzs q1 hl hnews (List.all_eq_true.1 h1) hm (by simp only [maxLen]; omega) (by
  have : (n + m) * bytes ≤ 1073741824 * 65536 := Nat.mul_le_mul h63 hb
  omega)
 have : (execOp a.eval ⟨d, .call { callee := .builtin .append, args := #[x, y], argTypes := #[t, t] }, ty, pos, af, g⟩).run E.P w = .ok (.value (.slice A' (n + m) c2)) w' := by
  simp only [execOp, resolve, invoke, builtin, Sem.run_bind, Sem.run_pure, Result.andThen_ok, List.map_toArray, List.map_cons, List.map_nil, hs.ev hx, hs.ev hy, hr]
 unfold Oper.wp
 rw [this, Oper.upon_value]
 refine hK _ _ _ _ ⟨A', c2, rfl, rfl, rfl⟩ (k5 w' [rowR e size A' (n + m) c2 (xs ++ news)] [] g2 ⟨S', fun _ => False, sep1 g1, fac0, fun _ _ h => h, g3, fun _ h => h.elim, fun _ h => h.elim⟩)
theorem OJ_storeRow {t e : TypeId} {x y : Operand} {n c m size off : Nat} {A : Option Addr} {ad : Addr} {v : Value} {ag : Bool} {xs xs' : List Value} {μr : List Res} (hp : List.Perm μ (rowR e size A n c xs :: μr)) (hx : oev σ x = some (.pointer (some ad))) (had : ad = (adr A).add off) (hy : oev σ y = some v)
  (ht : tyi E.P t = some (ag, m)) (hn : v.cells.size = m) (hb : off + m ≤ xs.length) (h1 : v.cells.toList.all (·.oneCell') = true) (hxs : xs.take off ++ (v.cells.toList ++ xs.drop (off + m)) = xs') (hm0 : 0 < xs.length) :
  OJ E (.store t x y) ty σ μ φ (fun _ μ' φ' => μ' = rowR e size A n c xs' :: μr ∧ φ' = φ) := fun a w d pos af g K Q hs hm hK => by
 subst hxs
 subst had
 obtain ⟨S1, T, k1, k2, k3, k4, k5⟩ := hm.lend (μ1 := [rowR e size A n c xs]) (μr := μr) (φ1 := []) hp (fun _ h => nomatch h)
 obtain ⟨S2, S3, q1, q2, q3, q4⟩ := k1
 have hS : S1 = S2 := funext fun k => propext ⟨fun h => ((q4 k).1 h).resolve_right (q2 k), fun h => (q4 k).2 (.inl h)⟩
 subst hS
 obtain ⟨hl, hrow⟩ := q1
 rcases hrow with ⟨_, h0, _⟩ | ⟨g', cur, rfl, hS, hg, hnc, hcm, hcs, htake⟩
 ·rw [hl, h0] at hm0; simp at hm0
 ·have hle : n * size ≤ cur.size := by rw [hcs]; exact Nat.mul_le_mul_right _ hnc
  have hvl : v.cells.toList.length = m := by rw [Array.length_toList]; exact hn
  obtain ⟨w', e1, e2, e3, e4, e5, e6, e7⟩ := run_storeCells_wr (P := E.P) g' off e v.cells.toList 0 cur w hg (by omega) (List.all_eq_true.1 h1)
  have hadr : (adr (some ⟨g', 0, none⟩)).add off = ⟨g', off, none⟩ := by
   show (⟨g', 0, none⟩ : Addr).add off = _
   rw [Addr.add_lit, Nat.zero_add]
  rw [hadr] at hx
  have : (execOp a.eval ⟨d, .store t x y, ty, pos, af, g⟩).run E.P w = .ok .skip w' := by
   simp only [execOp, hs.ev hx, hs.ev hy]
   simp [Instr.storeAt, Instr.sureAddr, storeVar, run_sizeOf' ht, hn, e1]
  unfold Oper.wp
  rw [this, Oper.upon_skip]
  refine hK undef _ _ _ ⟨rfl, rfl⟩ (k5 w' [rowR e size _ n c (xs.take off ++ (v.cells.toList ++ xs.drop (off + m)))] [] ⟨e4, e5, e6, by omega, fun k hk hn => e3 k (fun e => hn ((hS k).2 e))⟩ ⟨S1, fun _ => False, sep1 ?_, fac0, fun _ _ h => h, fun k hk => .inl hk, fun _ h => h.elim, fun _ h => h.elim⟩)
  refine ⟨?_, .inr ⟨g', _, rfl, hS, e2, hnc, hcm, by rw [wr_size]; exact hcs, ?_⟩⟩
  ·rw [← hl]; simp; omega
  ·simp only [Nat.add_zero]
   rw [wr_list _ _ _ (by omega), hvl]
   have hxl : xs.length ≤ cur.toList.length := by rw [hl, Array.length_toList]; exact hle
   have h3 : xs.take off = cur.toList.take off := by rw [← htake, List.take_take, Nat.min_eq_left (by omega)]
   have h4 : xs.drop (off + m) = (cur.toList.drop (off + m)).take (n * size - (off + m)) := by rw [← htake, List.drop_take]
   have hl1 : (cur.toList.take off).length = off := by rw [List.length_take]; omega
   have hm2 : off + m ≤ n * size := by rw [← hl]; exact hb
   rw [h3, h4, List.take_append, hl1, List.take_of_length_le (l := cur.toList.take off) (i := n * size) (by rw [hl1]; omega), List.take_append, hvl, List.take_of_length_le (l := v.cells.toList) (i := n * size - off) (by rw [hvl]; omega)]
   congr 3
   omega
theorem rowR.short {e : TypeId} {size n n' c : Nat} {A : Option Addr} {xs : List Value} (hn : n' ≤ n) {w : World} {S : Nat → Prop} (h : (rowR e size A n c xs).p w S) : (rowR e size A n' c (xs.take (n' * size))).p w S := by
 obtain ⟨hl, hrow⟩ := h
 have hle : n' * size ≤ n * size := Nat.mul_le_mul_right _ hn
 refine ⟨by rw [List.length_take, hl]; omega, ?_⟩
 rcases hrow with ⟨rfl, rfl, rfl, h⟩ | ⟨g', cur, rfl, hS, hg, hnc, hcm, hcs, htake⟩
 ·exact .inl ⟨rfl, by omega, rfl, h⟩
 ·refine .inr ⟨g', cur, rfl, hS, hg, by omega, hcm, hcs, ?_⟩
  rw [← htake, List.take_take, Nat.min_eq_left hle]
theorem OKm.head {r r' : Res} {w : World} (h : OKm E (r :: μ) φ w) (hr : ∀ w S, r.p w S → r'.p w S) : OKm E (r' :: μ) φ w :=
 h.turn (fun S ⟨S1, S2, a, b⟩ => ⟨S1, S2, hr _ _ a, b⟩) (fun _ h => h)
theorem rowR.none_ (e : TypeId) (size : Nat) {w : World} : (rowR e size none 0 0 []).p w (fun _ => False) := ⟨by simp, .inl ⟨rfl, rfl, rfl, fun _ h => h⟩⟩
theorem OKm.newRow {w : World} (h : OKm E μ φ w) (e : TypeId) (size : Nat) : OKm E (rowR e size none 0 0 [] :: μ) φ w := by
 refine ⟨h.keeps, ?_⟩
 obtain ⟨S, T, h1, h2⟩ := h.mem
 exact ⟨S, T, ⟨fun _ => False, S, rowR.none_ e size, h1, fun _ h => h.elim, fun _ => by simp⟩, h2⟩
theorem OKm.freezeRow {e : TypeId} {size n c : Nat} {A : Option Addr} {xs : List Value} {w : World} (h : OKm E (rowR e size A n c xs :: μ) φ w) : OKm E μ (sliceR size A n xs :: φ) w :=
 (OKm.addF (r := rowR e size A n c xs) (r' := sliceR size A n xs) h.freeze (.head _) (fun S hS => rowR.slice hS)).turn (fun _ h => h) (fun T hT r hr => hT r (by
  rcases List.mem_cons.1 hr with rfl | hr
  ·exact .head _
  ·exact .tail _ (.tail _ hr)))
variable {Q : Qt} {ops : Array Oper} {rest : List Oper} {c : Code}
theorem CJ_newRow (e : TypeId) (size : Nat) (h : CJ E Q c σ (rowR e size none 0 0 [] :: μ) φ) : CJ E Q c σ μ φ := fun a w ha hm => h a w ha (hm.newRow e size)
def frF {ι : Type} (F : ι → St) (μr φr : List Res) : ι → St := fun i => ⟨(F i).σ, (F i).μ ++ μr, (F i).φ ++ φr⟩
theorem CJ_loopF {ι : Type} (F : ι → St) (I : ι → Prop) (m : ι → Nat) (i0 : ι) {μr : List Res} (h0 : I i0) (hs : AllLk σ (F i0).σ) (hp : List.Perm μ ((F i0).μ ++ μr)) (hf : ∀ r, r ∈ (F i0).φ → r ∈ φ)
  (h : ∀ i, I i → CJ E (Exit.then (fun a' w' => ∃ j, I j ∧ m j < m i ∧ OKa E (frF F μr φ j).σ a' ∧ OKm E (frF F μr φ j).μ (frF F μr φ j).φ w') Q) c (F i).σ ((F i).μ ++ μr) ((F i).φ ++ φ)) : CJ E Q (.loop c) σ μ φ :=
 CJ_loop (frF F μr φ) I m i0 (μr := []) h0 hs (by simpa [frF] using hp) (fun r hr => (List.mem_append.1 hr).elim (hf r) id) h
theorem RJ_loopF {ι : Type} {l n : Nat} (F : ι → St) (I : ι → Prop) (m : ι → Nat) (i0 : ι) {μr : List Res} (h0 : I i0) (hs : AllLk σ (F i0).σ) (hp : List.Perm μ ((F i0).μ ++ μr)) (hf : ∀ r, r ∈ (F i0).φ → r ∈ φ)
  (h : ∀ i, I i → RJ l n E (Exit.then (fun a' w' => ∃ j, I j ∧ m j < m i ∧ OKa E (frF F μr φ j).σ a' ∧ OKm E (frF F μr φ j).μ (frF F μr φ j).φ w') Q) c (F i).σ ((F i).μ ++ μr) ((F i).φ ++ φ)) : RJ l n E Q (.loop c) σ μ φ :=
 RJ_loop (frF F μr φ) I m i0 (μr := []) h0 hs (by simpa [frF] using hp) (fun r hr => (List.mem_append.1 hr).elim (hf r) id) h
theorem QJ_roundF {ι : Type} {F : ι → St} {I : ι → Prop} {m : ι → Nat} {i : ι} {μr φr : List Res} (j : ι) {μd : List Res} (hI : I j) (hm : m j < m i) (hs : AllLk σ (F j).σ) (hp : List.Perm μ (((F j).μ ++ μr) ++ μd)) (hf1 : ∀ r, r ∈ (F j).φ → r ∈ φ) (hf2 : ∀ r, r ∈ φr → r ∈ φ) :
  QJ E (Exit.then (fun a' w' => ∃ j, I j ∧ m j < m i ∧ OKa E (frF F μr φr j).σ a' ∧ OKm E (frF F μr φr j).μ (frF F μr φr j).φ w') Q) .normal σ μ φ :=
 QJ_round (F := frF F μr φr) j hI hm hs hp (fun r hr => (List.mem_append.1 hr).elim (hf1 r) (hf2 r))
end
end Go.Proofs.Ytbanlhlggkdanaa
namespace Go.Proofs.Ytbanlhlggkdanaa
open Go.RowKit
theorem tyi_28 : tyi Try.prog 28 = some (false, 1) := by kernel_rfl
theorem ent_19 : Enter Try.prog 19 = true := by kernel_rfl
theorem ent_50 : Enter Try.prog 50 = true := by kernel_rfl
def realsF : Nat → List Tr → List (Nat × Tr)
 | _, [] => []
 | k, t :: r => if t.real then (k, t) :: realsF (k + 1) r else realsF (k + 1) r
abbrev reals (tris : List Tr) : List (Nat × Tr) := realsF 0 tris
theorem realsF_app : ∀ (a b : List Tr) (k : Nat), realsF k (a ++ b) = realsF k a ++ realsF (k + a.length) b
 | [], b, k => by simp [realsF]
 | t :: a, b, k => by
  simp only [List.cons_append, realsF, List.length_cons]
  rw [realsF_app a b (k + 1), show k + 1 + a.length = k + (a.length + 1) by omega]
  split <;> simp
theorem reals_step {tris : List Tr} {k : Nat} {t : Tr} (ht : tris[k]? = some t) : reals (tris.take (k + 1)) = reals (tris.take k) ++ if t.real then [(k, t)] else [] := by
 have hk : k < tris.length := (List.getElem?_eq_some_iff.1 ht).1
 have e : tris.take (k + 1) = tris.take k ++ [t] := by rw [List.take_add_one, ht]; rfl
 have hl : (tris.take k).length = k := by rw [List.length_take]; omega
 rw [reals, reals, e, realsF_app, hl, Nat.zero_add]
 simp [realsF]
theorem reals_pre (tris : List Tr) (k : Nat) : reals (tris.take k) <+: reals tris := by
 have := realsF_app (tris.take k) (tris.drop k) 0
 rw [List.take_append_drop] at this
 exact ⟨_, this.symm⟩
theorem realsF_mem : ∀ {tris : List Tr} {b k : Nat} {t : Tr}, (k, t) ∈ realsF b tris ↔ b ≤ k ∧ tris[k - b]? = some t ∧ t.real
 | [], b, k, t => by simp [realsF]
 | u :: r, b, k, t => by
  have ih := realsF_mem (tris := r) (b := b + 1) (k := k) (t := t)
  unfold realsF
  split
  ·rename_i hu
   rw [List.mem_cons, ih]
   constructor
   ·rintro (h | ⟨h1, h2, h3⟩)
    ·simp only [Prod.mk.injEq] at h
     obtain ⟨rfl, rfl⟩ := h
     simp [hu]
    ·refine ⟨by omega, ?_, h3⟩
     rw [show k - b = (k - (b + 1)) + 1 by omega]
     simpa using h2
   ·rintro ⟨h1, h2, h3⟩
    by_cases e : k = b
    ·subst e
     simp at h2
     subst h2
     exact .inl rfl
    ·refine .inr ⟨by omega, ?_, h3⟩
     rw [show k - b = (k - (b + 1)) + 1 by omega] at h2
     simpa using h2
  ·rename_i hu
   rw [ih]
   constructor
   ·rintro ⟨h1, h2, h3⟩
    refine ⟨by omega, ?_, h3⟩
    rw [show k - b = (k - (b + 1)) + 1 by omega]
    simpa using h2
   ·rintro ⟨h1, h2, h3⟩
    by_cases e : k = b
    ·subst e
     simp at h2
     subst h2
     exact absurd h3 hu
    ·refine ⟨by omega, ?_, h3⟩
     rw [show k - b = (k - (b + 1)) + 1 by omega] at h2
     simpa using h2
theorem reals_mem {tris : List Tr} {k : Nat} {t : Tr} : (k, t) ∈ reals tris ↔ tris[k]? = some t ∧ t.real := by
 rw [reals, realsF_mem]
 simp
def encT (x : Nat × Tr) : List Value := [.int .i64 x.1, .agg x.2.cells.toArray]
def allFs (b B : Nat) (h : Mh) (pts : List (Int × Int)) (tris : List Tr) : List Res := sliceR 1 (some ⟨b, 0, none⟩) 1 [.pointer (some ⟨B, 0, none⟩)] :: meshFs B h pts tris
theorem mem_sw {a b c : List Res} : ∀ r, r ∈ a ++ (b ++ c) → r ∈ b ++ (a ++ c) := fun r h => by
 simp only [List.mem_append] at *
 rcases h with h | h | h
 ·exact .inr (.inl h)
 ·exact .inl h
 ·exact .inr (.inr h)
theorem mem_sub3 {a b c d : List Res} : ∀ r, r ∈ a ++ (b ++ c) → r ∈ b ++ (a ++ (d ++ c)) := fun r h => by
 simp only [List.mem_append] at *
 rcases h with h | h | h
 ·exact .inr (.inl h)
 ·exact .inl h
 ·exact .inr (.inr (.inr h))
set_option maxRecDepth 100000 in
set_option maxHeartbeats 1000000 in
theorem all_c {B : Nat} : Tri Try.prog 19 [.pointer (some ⟨B, 0, none⟩)] [] [] (RetX (fun _ : Nat => True) (fun b => .func (.func 50) #[] #[.pointer (some ⟨b, 0, none⟩)]) (fun _ => []) (fun b => [sliceR 1 (some ⟨b, 0, none⟩) 1 [.pointer (some ⟨B, 0, none⟩)]])) := by
 refine Tri_of (N := 4) Try.func19 rfl ent_19 rfl rfl ?_
 intro w0 S0 T0
 show CJ _ _ _ [(0, _)] _ _
 refine CJ_seq ?_
 refine CJ_reg ?_
 refine LJ_box (cs := #[_]) rfl rfl rfl rfl ?_
 intro b1
 refine LJ_freeze ?_
 refine LJ_addF (r' := sliceR 1 (some ⟨b1, 0, none⟩) 1 [.pointer (some ⟨B, 0, none⟩)]) (.head _) (fun w S h => cellsR_slice (n := 1) rfl w S h) ?_
 refine LJ_y rfl rfl (YJ_assign rfl) ?_
 refine LJ_nil ?_
 refine QJ_then ?_
 refine CJ_seq ?_
 refine CJ_reg ?_
 refine LJ_y rfl rfl (YJ_makeFunc (vs := []) (us := [_]) rfl rfl) ?_
 refine LJ_y rfl rfl (YJ_assign rfl) ?_
 refine LJ_nil ?_
 refine QJ_then ?_
 refine CJ_ret ?_
 refine QJ_fin (.inl rfl) (μ' := []) (μr := _) (φ' := [_]) (res_tmp rfl rfl) (List.Perm.refl _) (fun r h => by rw [List.mem_singleton] at h; subst h; exact .head _) ?_
 exact ⟨b1, trivial, rfl, rfl, rfl⟩
set_option maxRecDepth 100000 in
set_option maxHeartbeats 1000000 in
theorem all1_c {b B : Nat} {h : Mh} {pts : List (Int × Int)} {tris : List Tr} {l : Nat} {J Jx : List (Nat × Tr) → List Res → List Res → Prop} {φx : List Res} (hlen : tris.length ≤ 1073741824)
  (hy : ∀ pre x μ φ, (pre ++ [x]) <+: reals tris → J pre μ φ → YTri Try.prog l (encT x) μ (φ ++ (allFs b B h pts tris ++ φx)) (fun v μ' φ' => (v = .bool true ∧ J (pre ++ [x]) μ' φ') ∨ (v = .bool false ∧ Jx (pre ++ [x]) μ' φ')))
  {μ φ : List Res} (hJ : J [] μ φ) : Tri Try.prog 50 [.func (.yield l) #[] #[], .pointer (some ⟨b, 0, none⟩)] μ (φ ++ (allFs b B h pts tris ++ φx)) (fun _ μ' φ' => J (reals tris) μ' φ' ∨ ∃ pre, pre <+: reals tris ∧ Jx pre μ' φ') := by
 refine Tri_of (N := 26) Try.func50 rfl ent_50 rfl rfl ?_
 intro w0 S0 T0
 show CJ _ _ _ [(0, _), (1, _)] _ _
 refine CJ_weak (σ' := [(0, _), (1, _)]) (μ' := μ) (μr := []) (φ' := allFs b B h pts tris ++ (φ ++ φx)) ⟨rfl, rfl, trivial⟩ (by simp) (fun r h => mem_sw r h) ?_
 refine CJ_seq ?_
 refine CJ_reg ?_
 refine LJ_y rfl rfl (YJ_loadFactP (A := some ⟨b, 0, none⟩) (j := 0) rfl rfl tyi_28 m0 rfl) ?_
 refine LJ_y rfl rfl (YJ_nilCheck rfl) ?_
 refine LJ_y rfl rfl (YJ_fieldOwn rfl fld_57_1 rfl) ?_
 refine LJ_y rfl rfl (YJ_loadFactP (A := some ⟨B, 0, none⟩) (j := 1) rfl rfl tyi_54 m1 rfl) ?_
 refine LJ_y rfl rfl (YJ_len rfl ulen_54 rfl) ?_
 refine LJ_y rfl rfl (YJ_move rfl) ?_
 refine LJ_nil ?_
 refine QJ_then ?_
 refine CJ_block ?_
 refine CJ_loop (F := fun (i : Nat × List Res × List Res) => ⟨[(0, .func (.yield l) #[] #[]), (1, .pointer (some ⟨b, 0, none⟩)), (8, .slice h.T tris.length h.ct), (9, .int .i64 tris.length), (10, .int .i64 (i.1 : Nat))], i.2.1, (allFs b B h pts tris ++ (i.2.2 ++ φx))⟩) (I := fun (i : Nat × List Res × List Res) => i.1 ≤ tris.length ∧ J (reals (tris.take i.1)) i.2.1 i.2.2) (m := fun (i : Nat × List Res × List Res) => tris.length - i.1) (0, μ, φ) (μr := []) ⟨Nat.zero_le _, hJ⟩ (And.intro rfl (And.intro rfl (And.intro rfl (And.intro rfl (And.intro rfl (trivial)))))) ((by simp)) (fun _ h => h) ?_
 rintro ⟨k, μ1, φ1⟩ ⟨hk, hJ⟩
 try dsimp only at hk
 try dsimp only at hJ
 show CJ _ _ _ [(0, .func (.yield l) #[] #[]), (1, .pointer (some ⟨b, 0, none⟩)), (8, .slice h.T tris.length h.ct), (9, .int .i64 tris.length), (10, .int .i64 (k : Nat))] μ1 (allFs b B h pts tris ++ (φ1 ++ φx))
 refine CJ_seq ?_
 refine CJ_reg ?_
 refine LJ_y rfl rfl (YJ_bin rfl rfl rfl) ?_
 refine LJ_nil ?_
 refine QJ_then ?_
 refine CJ_seq ?_
 refine CJ_cond rfl (fun h11 => ?_) (fun h11 => ?_)
 ·simp only [decide_eq_true_eq] at h11
  obtain ⟨t, ht⟩ := get_of_lt (tris := tris) (i := (k : Int)) (by omega) (by omega)
  have htk : tris[k]? = some t := by simpa using ht
  have hst := reals_step htk
  have hri := real_iff (by omega) ht
  refine CJ_skip ?_
  refine QJ_then ?_
  refine CJ_seq ?_
  refine CJ_block ?_
  refine CJ_seq ?_
  refine CJ_reg ?_
  refine LJ_y rfl rfl (YJ_move rfl) ?_
  refine LJ_y rfl rfl (YJ_ixFact rfl rfl elt_54 m3 (by decide) (by omega) (by omega) (by omega)) ?_
  refine LJ_y rfl rfl (YJ_loadFactN (vs := [.int .i64 t.v0, .int .i64 t.v1, .int .i64 t.v2, .int .i64 t.n0, .int .i64 t.n1, .int .i64 t.n2, .bool t.f0, .bool t.f1, .bool t.f2]) (xs := trCells tris) rfl tyi_37 m3 (trCells_row ht) rfl) ?_
  refine LJ_alloc (cs := #[_, _, _, _, _, _, _, _, _]) rfl rfl zer_37 rfl ?_
  intro b1
  refine LJ_y rfl rfl (YJ_assign rfl) ?_
  refine LJ_store (cs' := #[_, _, _, _, _, _, _, _, _]) (μ' := (_ :: _)) 0 rfl rfl rfl rfl tyi_37 rfl (Nat.le_of_ble_eq_true rfl) rfl (wr_all rfl) rfl ?_
  refine LJ_nil ?_
  refine QJ_then ?_
  refine CJ_seq ?_
  refine CJ_regY ?_
  refine LY_y rfl rfl (YJ_loadFactP (A := some ⟨b, 0, none⟩) (j := 0) rfl rfl tyi_28 m0 rfl) ?_
  refine LY_y rfl rfl (YJ_move rfl) ?_
  refine LY_call0 rfl rfl rfl rfl rfl (real_c (h := h) (pts := pts) (tris := tris)) (fun r h => .tail _ (List.mem_append_left _ h)) ?_
  refine LY_y rfl rfl (YJ_move rfl) ?_
  refine LY_boolC (fun h18 => ?_) (fun h18 => ?_)
  ·simp only [decide_eq_true_eq] at h18
   have hstep : reals (tris.take (k + 1)) = reals (tris.take k) ++ [(k, t)] := by rw [hst, if_pos (hri.1 h18)]
   refine LY_y rfl rfl (YJ_move rfl) ?_
   refine LY_y rfl rfl (YJ_move rfl) ?_
   refine LY_y rfl rfl (YJ_loadN (vs := [_, _, _, _, _, _, _, _, _]) rfl tyi_37 m0 rfl rfl) ?_
   refine LY_yield rfl rfl rfl rfl (hy _ (k, t) μ1 φ1 (by rw [← hstep]; exact reals_pre tris (k + 1)) hJ) (μr := [_]) (List.perm_append_singleton _ _).symm (fun r h => mem_sw r h) ?_
   intro v μ2 φ2 hpost
   obtain ⟨c, rfl, hc⟩ : ∃ c : Bool, v = .bool c ∧ ((c = true ∧ J (reals (tris.take k) ++ [(k, t)]) μ2 φ2) ∨ (c = false ∧ Jx (reals (tris.take k) ++ [(k, t)]) μ2 φ2)) := by
    rcases hpost with ⟨rfl, h⟩ | ⟨rfl, h⟩
    ·exact ⟨true, rfl, .inl ⟨rfl, h⟩⟩
    ·exact ⟨false, rfl, .inr ⟨rfl, h⟩⟩
   refine LY_boolC (fun h22 => ?_) (fun h22 => ?_)
   ·skip
    replace hc : J (reals (tris.take (k + 1))) μ2 φ2 := by
     rw [hstep]
     rcases hc with ⟨_, q⟩ | ⟨q, _⟩
     ·exact q
     ·rw [h22] at q; cases q
    refine LY_y rfl rfl (YJ_not rfl) ?_
    refine LY_y rfl rfl (YJ_pickT rfl rfl) ?_
    refine LY_nil ?_
    refine QJ_then ?_
    refine CJ_condF rfl ?_
    refine CJ_skip ?_
    refine QJ_in_normal ?_
    refine QJ_then ?_
    refine CJ_reg ?_
    refine LJ_y rfl rfl (YJ_bin rfl rfl (iop_add (by omega))) ?_
    refine LJ_y rfl rfl (YJ_move rfl) ?_
    refine LJ_nil ?_
    refine QJ_round (F := fun (i : Nat × List Res × List Res) => ⟨[(0, .func (.yield l) #[] #[]), (1, .pointer (some ⟨b, 0, none⟩)), (8, .slice h.T tris.length h.ct), (9, .int .i64 tris.length), (10, .int .i64 (i.1 : Nat))], i.2.1, (allFs b B h pts tris ++ (i.2.2 ++ φx))⟩) (I := fun (i : Nat × List Res × List Res) => i.1 ≤ tris.length ∧ J (reals (tris.take i.1)) i.2.1 i.2.2) (m := fun (i : Nat × List Res × List Res) => tris.length - i.1) (i := (k, μ1, φ1)) ((k + 1, μ2, φ2)) (μr := [_]) ⟨by omega, hc⟩ (by dsimp only; omega) (And.intro rfl (And.intro rfl (And.intro rfl (And.intro rfl (And.intro rfl (trivial)))))) (List.Perm.refl _) (fun r h => mem_sub3 r h)
   ·skip
    replace hc : Jx (reals (tris.take (k + 1))) μ2 φ2 := by
     rw [hstep]
     rcases hc with ⟨q, _⟩ | ⟨_, q⟩
     ·rw [h22] at q; cases q
     ·exact q
    refine LY_y rfl rfl (YJ_not rfl) ?_
    refine LY_y rfl rfl (YJ_pickT rfl rfl) ?_
    refine LY_nil ?_
    refine QJ_then ?_
    refine CJ_condT rfl ?_
    refine CJ_ret ?_
    refine QJ_in_ret ?_
    refine QJ_then_ret ?_
    refine QJ_then_ret ?_
    refine QJ_in_ret ?_
    exact QJ_fin (.inl rfl) (μ' := μ2) (μr := [_]) (φ' := φ2) (res_none rfl) (List.Perm.refl _) (fun r h => List.mem_append_left _ h) (.inr ⟨_, reals_pre tris (k + 1), hc⟩)
  ·simp only [decide_eq_false_iff_not] at h18
   have hstep : reals (tris.take (k + 1)) = reals (tris.take k) := by rw [hst, if_neg (fun q => h18 (hri.2 q)), List.append_nil]
   refine LY_skip rfl rfl ?_
   refine LY_skip rfl rfl ?_
   refine LY_skip rfl rfl ?_
   refine LY_skip rfl rfl ?_
   refine LY_skip rfl rfl ?_
   refine LY_y rfl rfl (YJ_pickF rfl rfl) ?_
   refine LY_nil ?_
   refine QJ_then ?_
   refine CJ_condF rfl ?_
   refine CJ_skip ?_
   refine QJ_in_normal ?_
   refine QJ_then ?_
   refine CJ_reg ?_
   refine LJ_y rfl rfl (YJ_bin rfl rfl (iop_add (by omega))) ?_
   refine LJ_y rfl rfl (YJ_move rfl) ?_
   refine LJ_nil ?_
   refine QJ_round (F := fun (i : Nat × List Res × List Res) => ⟨[(0, .func (.yield l) #[] #[]), (1, .pointer (some ⟨b, 0, none⟩)), (8, .slice h.T tris.length h.ct), (9, .int .i64 tris.length), (10, .int .i64 (i.1 : Nat))], i.2.1, (allFs b B h pts tris ++ (i.2.2 ++ φx))⟩) (I := fun (i : Nat × List Res × List Res) => i.1 ≤ tris.length ∧ J (reals (tris.take i.1)) i.2.1 i.2.2) (m := fun (i : Nat × List Res × List Res) => tris.length - i.1) (i := (k, μ1, φ1)) ((k + 1, μ1, φ1)) (μr := [_]) ⟨by omega, by show J (reals (tris.take (k + 1))) _ _; rw [hstep]; exact hJ⟩ (by dsimp only; omega) (And.intro rfl (And.intro rfl (And.intro rfl (And.intro rfl (And.intro rfl (trivial)))))) ((List.perm_append_singleton _ _).symm) (fun _ h => h)
 ·simp only [decide_eq_false_iff_not] at h11
  refine CJ_exit ?_
  refine QJ_then_exit ?_
  refine QJ_then_exit ?_
  refine QJ_in_exit ?_
  exact QJ_fin (.inr rfl) (μ' := μ1) (μr := []) (φ' := φ1) (res_none rfl) (by simp) (fun r h => List.mem_append_right _ (List.mem_append_left _ h)) (.inl (by rw [List.take_of_length_le (by omega)] at hJ; exact hJ))
theorem all_it {b B : Nat} {h : Mh} {pts : List (Int × Int)} {tris : List Tr} (hlen : tris.length ≤ 1073741824) : ITri Try.prog 50 [.pointer (some ⟨b, 0, none⟩)] encT (reals tris) (allFs b B h pts tris) :=
 ⟨by kernel_rfl, fun _ _ _ _ hy _ _ hJ => all1_c hlen hy hJ⟩
end Go.Proofs.Ytbanlhlggkdanaa
