/- The walks of num.Add, Sub, Mul and of wide.Num. -/
import Derived.Test.YtbanlhlggkdanaaN1
set_option linter.unusedSimpArgs false
set_option linter.unusedVariables false
namespace Go.Proofs.Ytbanlhlggkdanaa
open Go.RowKit

theorem ent_46 : Enter Try.prog 46 = true := by kernel_rfl
theorem ent_94 : Enter Try.prog 94 = true := by kernel_rfl


theorem sg_add {a b : Int} (h : decide (a < 0) = decide (b < 0)) : sg (decide (a < 0)) (a.natAbs + b.natAbs) = a + b := by
  unfold sg
  rw [decide_eq_decide] at h
  by_cases h1 : a < 0
  · rw [decide_eq_true h1, if_pos rfl]; omega
  · rw [decide_eq_false h1, if_neg (by simp)]; omega
theorem sg_sub {a b : Int} (h : ¬ (decide (a < 0) = decide (b < 0))) (h1 : b.natAbs ≤ a.natAbs) : sg (decide (a < 0)) (a.natAbs - b.natAbs) = a + b := by
  unfold sg
  rw [decide_eq_decide] at h
  by_cases h1 : a < 0
  · rw [decide_eq_true h1, if_pos rfl]; omega
  · rw [decide_eq_false h1, if_neg (by simp)]; omega
theorem sgn_ge_zero {n : Int} : 0 ≤ sgn n ↔ 0 ≤ n := by have := sgn_cases n; omega
theorem dl_le_of {z : Int} {v k : Nat} (h : v < BB ^ k) (e : z.natAbs = v) : dl z ≤ k := by subst e; exact digits_len h
theorem dlv {v k : Nat} (h : (digits v).length ≤ k) : v < BB ^ k := by
  have := val_lt (digits_w v)
  rw [val_digits] at this
  exact Nat.lt_of_lt_of_le this (Nat.pow_le_pow_right BB_pos h)
theorem add_len {u v k l : Nat} (hu : (digits u).length ≤ k) (hv : (digits v).length ≤ l) : (digits (u + v)).length ≤ k + l + 1 := by
  apply digits_len
  have h1 := dlv hu
  have h2 := dlv hv
  have h3 : BB ^ k ≤ BB ^ (k + l) := Nat.pow_le_pow_right BB_pos (by omega)
  have h4 : BB ^ l ≤ BB ^ (k + l) := Nat.pow_le_pow_right BB_pos (by omega)
  have h5 : BB ^ (k + l + 1) = BB ^ (k + l) * BB := Nat.pow_succ _ _
  have h6 : BB ^ (k + l) * 2 ≤ BB ^ (k + l) * BB := Nat.mul_le_mul_left _ (by decide)
  omega
theorem sub_len {u v k : Nat} (hu : (digits u).length ≤ k) : (digits (u - v)).length ≤ k := digits_len (Nat.lt_of_le_of_lt (Nat.sub_le _ _) (dlv hu))
theorem mul_len {u v k l : Nat} (hu : (digits u).length ≤ k) (hv : (digits v).length ≤ l) : (digits (u * v)).length ≤ k + l := by
  apply digits_len
  have h1 := dlv hu
  have h2 := dlv hv
  rw [Nat.pow_add]
  exact Nat.mul_lt_mul'' h1 h2
theorem dl_add {a b : Int} {k l : Nat} (ha : dl a ≤ k) (hb : dl b ≤ l) : dl (a + b) ≤ k + l + 1 := by
  have h := add_len ha hb
  unfold dl
  exact digits_len (Nat.lt_of_le_of_lt (by omega) (dlv h))
theorem dl_neg (a : Int) : dl (-a) = dl a := by unfold dl; rw [Int.natAbs_neg]
theorem dl_sub {a b : Int} {k l : Nat} (ha : dl a ≤ k) (hb : dl b ≤ l) : dl (a - b) ≤ k + l + 1 := by
  rw [Int.sub_eq_add_neg]; exact dl_add ha (by rw [dl_neg]; exact hb)
theorem dl_mul {a b : Int} {k l : Nat} (ha : dl a ≤ k) (hb : dl b ≤ l) : dl (a * b) ≤ k + l := by
  unfold dl; rw [Int.natAbs_mul]; exact mul_len ha hb
theorem sg_mul {a b : Int} : sg (decide (a < 0) != decide (b < 0)) (a.natAbs * b.natAbs) = a * b := by
  have h := pabs a b
  unfold sg
  rw [Int.natCast_mul, h]
  by_cases h1 : a < 0 <;> by_cases h2 : b < 0 <;> simp [h1, h2]


set_option maxRecDepth 100000 in
set_option maxHeartbeats 1000000 in
theorem nadd_c {a b : Int} {A B : Option Addr} {c d : Nat} (ha : dl a ≤ 40000) (hb : dl b ≤ 40000) (hc : dl a ≤ c) (hd : dl b ≤ d) : Tri Try.prog 46 [numV a A c, numV b B d] [] [numF a A, numF b B] (RetN (a + b)) := by
  refine Tri_of (N := 40) Try.func46 rfl ent_46 rfl rfl ?_
  intro w0 S0 T0
  show CJ _ _ _ [(0, _), (1, _)] _ _
  unfold dl at ha hb hc hd
  refine CJ_seq ?_
  refine CJ_reg ?_
  refine LJ_box (cs := #[_, _]) rfl rfl rfl rfl ?_
  intro b1
  refine LJ_box (cs := #[_, _]) rfl rfl rfl rfl ?_
  intro b2
  refine LJ_alloc (cs := #[_, _]) rfl rfl zer_100 rfl ?_
  intro b3
  refine LJ_nil ?_
  refine QJ_then ?_
  refine CJ_seq ?_
  refine CJ_seq ?_
  refine CJ_reg ?_
  first | refine LJ_y rfl rfl (YJ_fieldOwn rfl fld_100_0 rfl) ?_ | refine LJ_y rfl rfl (YJ_fieldAddr rfl fld_100_0) ?_
  first | refine LJ_y rfl rfl (YJ_loadL rfl tyi_4 (by repeat first | exact .head _ | apply List.Mem.tail) rfl) ?_ | refine LJ_y rfl rfl (YJ_loadFact rfl tyi_4 (by repeat first | exact .head _ | apply List.Mem.tail) rfl) ?_
  first | refine LJ_y rfl rfl (YJ_fieldOwn rfl fld_100_0 rfl) ?_ | refine LJ_y rfl rfl (YJ_fieldAddr rfl fld_100_0) ?_
  first | refine LJ_y rfl rfl (YJ_loadL rfl tyi_4 (by repeat first | exact .head _ | apply List.Mem.tail) rfl) ?_ | refine LJ_y rfl rfl (YJ_loadFact rfl tyi_4 (by repeat first | exact .head _ | apply List.Mem.tail) rfl) ?_
  refine LJ_y rfl rfl (YJ_eqb rfl rfl ubool_4) ?_
  refine LJ_nil ?_
  refine QJ_then ?_
  refine CJ_cond rfl (fun h9 => ?_) (fun h9 => ?_)
  · try simp only [beq_iff_eq, beq_eq_false_iff_ne, ne_eq, decide_eq_true_eq, decide_eq_false_iff_not] at h9
    refine CJ_seq ?_
    refine CJ_regD mix (by kernel_rfl) (fun _ _ _ _ _ h => h) (selR [1, 2] _) _ (selR_sub _ _) (fun _ h => h) ?_
    first | refine AJ_y 0 rfl (by kernel_rfl) (by kernel_rfl) rfl rfl (YJ_fieldOwn rfl fld_100_0 rfl) ?_ | refine AJ_y 0 rfl (by kernel_rfl) (by kernel_rfl) rfl rfl (YJ_fieldAddr rfl fld_100_0) ?_
    first | refine AJ_y 1 rfl (by kernel_rfl) (by kernel_rfl) rfl rfl (YJ_loadL rfl tyi_4 (by repeat first | exact .head _ | apply List.Mem.tail) rfl) ?_ | refine AJ_y 1 rfl (by kernel_rfl) (by kernel_rfl) rfl rfl (YJ_loadFact rfl tyi_4 (by repeat first | exact .head _ | apply List.Mem.tail) rfl) ?_
    first | refine AJ_y 2 rfl (by kernel_rfl) (by kernel_rfl) rfl rfl (YJ_fieldOwn rfl fld_100_1 rfl) ?_ | refine AJ_y 2 rfl (by kernel_rfl) (by kernel_rfl) rfl rfl (YJ_fieldAddr rfl fld_100_1) ?_
    first | refine AJ_y 3 rfl (by kernel_rfl) (by kernel_rfl) rfl rfl (YJ_loadL rfl tyi_98 (by repeat first | exact .head _ | apply List.Mem.tail) rfl) ?_ | refine AJ_y 3 rfl (by kernel_rfl) (by kernel_rfl) rfl rfl (YJ_loadFact rfl tyi_98 (by repeat first | exact .head _ | apply List.Mem.tail) rfl) ?_
    first | refine AJ_y 4 rfl (by kernel_rfl) (by kernel_rfl) rfl rfl (YJ_fieldOwn rfl fld_100_1 rfl) ?_ | refine AJ_y 4 rfl (by kernel_rfl) (by kernel_rfl) rfl rfl (YJ_fieldAddr rfl fld_100_1) ?_
    first | refine AJ_y 5 rfl (by kernel_rfl) (by kernel_rfl) rfl rfl (YJ_loadL rfl tyi_98 (by repeat first | exact .head _ | apply List.Mem.tail) rfl) ?_ | refine AJ_y 5 rfl (by kernel_rfl) (by kernel_rfl) rfl rfl (YJ_loadFact rfl tyi_98 (by repeat first | exact .head _ | apply List.Mem.tail) rfl) ?_
    refine AJ_callX 6 rfl (by kernel_rfl) rfl rfl rfl rfl rfl (madd_c (l := digits a.natAbs) (r := digits b.natAbs) rfl rfl (digits_w _) (digits_w _) (by omega) (by omega) hc hd) (AllIn.sub (And.intro (by repeat first | exact .head _ | apply List.Mem.tail) (And.intro (by repeat first | exact .head _ | apply List.Mem.tail) trivial))) ?_
    rintro ⟨A', c'⟩ hcap
    dsimp only at hcap
    dsimp only [List.cons_append, List.nil_append]
    rw [val_digits, val_digits] at hcap ⊢
    refine AJ_callX 7 rfl (by kernel_rfl) rfl rfl rfl rfl rfl (nmake_c (l := digits (a.natAbs + b.natAbs)) rfl (digits_w _) (by have := add_len ha hb; omega) hcap) (AllIn.sub (by first | exact trivial | exact And.intro (by repeat first | exact .head _ | apply List.Mem.tail) trivial | exact And.intro (by repeat first | exact .head _ | apply List.Mem.tail) (And.intro (by repeat first | exact .head _ | apply List.Mem.tail) trivial))) ?_
    rw [val_digits, sg_add h9]
    rintro ⟨A1, c1⟩ hcap1
    dsimp only at hcap1
    dsimp only [List.cons_append, List.nil_append]
    refine AJ_store (cs' := #[_, _]) (μ' := [_, _, _]) 8 0 rfl (by kernel_rfl) rfl rfl rfl rfl tyi_100 rfl (Nat.le_of_ble_eq_true rfl) rfl rfl rfl (fun _ => AllIn.sub (And.intro (by repeat first | exact .head _ | apply List.Mem.tail) (And.intro (by repeat first | exact .head _ | apply List.Mem.tail) (trivial)))) ?_
    refine AJ_done (by kernel_rfl) ?_
    refine QJ_then ?_
    refine CJ_ret ?_
    refine QJ_then_ret ?_
    refine QJ_fin (.inl rfl) (μ' := []) (μr := _) (φ' := [dF A1 _]) (res_cell (vs := [_, _]) rfl rfl (by repeat first | exact .head _ | apply List.Mem.tail) tyi_100 rfl) (List.Perm.refl _) (AllIn.sub (And.intro (.head _) trivial)) ?_
    exact ⟨(A1, c1), hcap1, rfl, rfl, rfl⟩
  · try simp only [beq_iff_eq, beq_eq_false_iff_ne, ne_eq, decide_eq_true_eq, decide_eq_false_iff_not] at h9
    refine CJ_skip ?_
    refine QJ_then ?_
    refine CJ_seq ?_
    refine CJ_seq ?_
    refine CJ_reg ?_
    first | refine LJ_y rfl rfl (YJ_fieldOwn rfl fld_100_1 rfl) ?_ | refine LJ_y rfl rfl (YJ_fieldAddr rfl fld_100_1) ?_
    first | refine LJ_y rfl rfl (YJ_loadL rfl tyi_98 (by repeat first | exact .head _ | apply List.Mem.tail) rfl) ?_ | refine LJ_y rfl rfl (YJ_loadFact rfl tyi_98 (by repeat first | exact .head _ | apply List.Mem.tail) rfl) ?_
    first | refine LJ_y rfl rfl (YJ_fieldOwn rfl fld_100_1 rfl) ?_ | refine LJ_y rfl rfl (YJ_fieldAddr rfl fld_100_1) ?_
    first | refine LJ_y rfl rfl (YJ_loadL rfl tyi_98 (by repeat first | exact .head _ | apply List.Mem.tail) rfl) ?_ | refine LJ_y rfl rfl (YJ_loadFact rfl tyi_98 (by repeat first | exact .head _ | apply List.Mem.tail) rfl) ?_
    refine LJ_call0 rfl rfl rfl rfl rfl (mcmp_c (l := digits a.natAbs) (r := digits b.natAbs) rfl rfl (digits_w _) (digits_w _) (by omega) (by omega) hc hd) (AllIn.sub (And.intro (by repeat first | exact .head _ | apply List.Mem.tail) (And.intro (by repeat first | exact .head _ | apply List.Mem.tail) trivial))) ?_
    rw [val_digits, val_digits]
    refine LJ_y rfl rfl (YJ_bin rfl rfl rfl) ?_
    refine LJ_nil ?_
    refine QJ_then ?_
    refine CJ_cond rfl (fun h23 => ?_) (fun h23 => ?_)
    · try simp only [beq_iff_eq, beq_eq_false_iff_ne, ne_eq, decide_eq_true_eq, decide_eq_false_iff_not] at h23
      have h23 := sgn_ge_zero.1 h23
      refine CJ_seq ?_
      refine CJ_regD mix (by kernel_rfl) (fun _ _ _ _ _ h => h) (selR [1, 2] _) _ (selR_sub _ _) (fun _ h => h) ?_
      first | refine AJ_y 0 rfl (by kernel_rfl) (by kernel_rfl) rfl rfl (YJ_fieldOwn rfl fld_100_0 rfl) ?_ | refine AJ_y 0 rfl (by kernel_rfl) (by kernel_rfl) rfl rfl (YJ_fieldAddr rfl fld_100_0) ?_
      first | refine AJ_y 1 rfl (by kernel_rfl) (by kernel_rfl) rfl rfl (YJ_loadL rfl tyi_4 (by repeat first | exact .head _ | apply List.Mem.tail) rfl) ?_ | refine AJ_y 1 rfl (by kernel_rfl) (by kernel_rfl) rfl rfl (YJ_loadFact rfl tyi_4 (by repeat first | exact .head _ | apply List.Mem.tail) rfl) ?_
      first | refine AJ_y 2 rfl (by kernel_rfl) (by kernel_rfl) rfl rfl (YJ_fieldOwn rfl fld_100_1 rfl) ?_ | refine AJ_y 2 rfl (by kernel_rfl) (by kernel_rfl) rfl rfl (YJ_fieldAddr rfl fld_100_1) ?_
      first | refine AJ_y 3 rfl (by kernel_rfl) (by kernel_rfl) rfl rfl (YJ_loadL rfl tyi_98 (by repeat first | exact .head _ | apply List.Mem.tail) rfl) ?_ | refine AJ_y 3 rfl (by kernel_rfl) (by kernel_rfl) rfl rfl (YJ_loadFact rfl tyi_98 (by repeat first | exact .head _ | apply List.Mem.tail) rfl) ?_
      first | refine AJ_y 4 rfl (by kernel_rfl) (by kernel_rfl) rfl rfl (YJ_fieldOwn rfl fld_100_1 rfl) ?_ | refine AJ_y 4 rfl (by kernel_rfl) (by kernel_rfl) rfl rfl (YJ_fieldAddr rfl fld_100_1) ?_
      first | refine AJ_y 5 rfl (by kernel_rfl) (by kernel_rfl) rfl rfl (YJ_loadL rfl tyi_98 (by repeat first | exact .head _ | apply List.Mem.tail) rfl) ?_ | refine AJ_y 5 rfl (by kernel_rfl) (by kernel_rfl) rfl rfl (YJ_loadFact rfl tyi_98 (by repeat first | exact .head _ | apply List.Mem.tail) rfl) ?_
      refine AJ_callX 6 rfl (by kernel_rfl) rfl rfl rfl rfl rfl (msub_c (l := digits a.natAbs) (r := digits b.natAbs) rfl rfl (digits_w _) (digits_w _) (by omega) (by omega) hc hd) (AllIn.sub (And.intro (by repeat first | exact .head _ | apply List.Mem.tail) (And.intro (by repeat first | exact .head _ | apply List.Mem.tail) trivial))) ?_
      rintro ⟨A', c'⟩ hcap
      dsimp only at hcap
      dsimp only [List.cons_append, List.nil_append]
      rw [val_digits, val_digits] at hcap ⊢
      refine AJ_callX 7 rfl (by kernel_rfl) rfl rfl rfl rfl rfl (nmake_c (l := digits (a.natAbs - b.natAbs)) rfl (digits_w _) (by have := sub_len (v := b.natAbs) ha; omega) hcap) (AllIn.sub (by first | exact trivial | exact And.intro (by repeat first | exact .head _ | apply List.Mem.tail) trivial | exact And.intro (by repeat first | exact .head _ | apply List.Mem.tail) (And.intro (by repeat first | exact .head _ | apply List.Mem.tail) trivial))) ?_
      rw [val_digits, sg_sub h9 (by omega)]
      rintro ⟨A1, c1⟩ hcap1
      dsimp only at hcap1
      dsimp only [List.cons_append, List.nil_append]
      refine AJ_store (cs' := #[_, _]) (μ' := [_, _, _]) 8 0 rfl (by kernel_rfl) rfl rfl rfl rfl tyi_100 rfl (Nat.le_of_ble_eq_true rfl) rfl rfl rfl (fun _ => AllIn.sub (And.intro (by repeat first | exact .head _ | apply List.Mem.tail) (And.intro (by repeat first | exact .head _ | apply List.Mem.tail) (trivial)))) ?_
      refine AJ_done (by kernel_rfl) ?_
      refine QJ_then ?_
      refine CJ_ret ?_
      refine QJ_then_ret ?_
      refine QJ_fin (.inl rfl) (μ' := []) (μr := _) (φ' := [dF A1 _]) (res_cell (vs := [_, _]) rfl rfl (by repeat first | exact .head _ | apply List.Mem.tail) tyi_100 rfl) (List.Perm.refl _) (AllIn.sub (And.intro (.head _) trivial)) ?_
      exact ⟨(A1, c1), hcap1, rfl, rfl, rfl⟩
    · try simp only [beq_iff_eq, beq_eq_false_iff_ne, ne_eq, decide_eq_true_eq, decide_eq_false_iff_not] at h23
      have h23 := mt sgn_ge_zero.2 h23
      refine CJ_skip ?_
      refine QJ_then ?_
      refine CJ_seq ?_
      refine CJ_regD mix (by kernel_rfl) (fun _ _ _ _ _ h => h) (selR [1, 2] _) _ (selR_sub _ _) (fun _ h => h) ?_
      first | refine AJ_y 0 rfl (by kernel_rfl) (by kernel_rfl) rfl rfl (YJ_fieldOwn rfl fld_100_0 rfl) ?_ | refine AJ_y 0 rfl (by kernel_rfl) (by kernel_rfl) rfl rfl (YJ_fieldAddr rfl fld_100_0) ?_
      first | refine AJ_y 1 rfl (by kernel_rfl) (by kernel_rfl) rfl rfl (YJ_loadL rfl tyi_4 (by repeat first | exact .head _ | apply List.Mem.tail) rfl) ?_ | refine AJ_y 1 rfl (by kernel_rfl) (by kernel_rfl) rfl rfl (YJ_loadFact rfl tyi_4 (by repeat first | exact .head _ | apply List.Mem.tail) rfl) ?_
      first | refine AJ_y 2 rfl (by kernel_rfl) (by kernel_rfl) rfl rfl (YJ_fieldOwn rfl fld_100_1 rfl) ?_ | refine AJ_y 2 rfl (by kernel_rfl) (by kernel_rfl) rfl rfl (YJ_fieldAddr rfl fld_100_1) ?_
      first | refine AJ_y 3 rfl (by kernel_rfl) (by kernel_rfl) rfl rfl (YJ_loadL rfl tyi_98 (by repeat first | exact .head _ | apply List.Mem.tail) rfl) ?_ | refine AJ_y 3 rfl (by kernel_rfl) (by kernel_rfl) rfl rfl (YJ_loadFact rfl tyi_98 (by repeat first | exact .head _ | apply List.Mem.tail) rfl) ?_
      first | refine AJ_y 4 rfl (by kernel_rfl) (by kernel_rfl) rfl rfl (YJ_fieldOwn rfl fld_100_1 rfl) ?_ | refine AJ_y 4 rfl (by kernel_rfl) (by kernel_rfl) rfl rfl (YJ_fieldAddr rfl fld_100_1) ?_
      first | refine AJ_y 5 rfl (by kernel_rfl) (by kernel_rfl) rfl rfl (YJ_loadL rfl tyi_98 (by repeat first | exact .head _ | apply List.Mem.tail) rfl) ?_ | refine AJ_y 5 rfl (by kernel_rfl) (by kernel_rfl) rfl rfl (YJ_loadFact rfl tyi_98 (by repeat first | exact .head _ | apply List.Mem.tail) rfl) ?_
      refine AJ_callX 6 rfl (by kernel_rfl) rfl rfl rfl rfl rfl (msub_c (l := digits b.natAbs) (r := digits a.natAbs) rfl rfl (digits_w _) (digits_w _) (by omega) (by omega) hd hc) (AllIn.sub (And.intro (by repeat first | exact .head _ | apply List.Mem.tail) (And.intro (by repeat first | exact .head _ | apply List.Mem.tail) trivial))) ?_
      rintro ⟨A', c'⟩ hcap
      dsimp only at hcap
      dsimp only [List.cons_append, List.nil_append]
      rw [val_digits, val_digits] at hcap ⊢
      refine AJ_callX 7 rfl (by kernel_rfl) rfl rfl rfl rfl rfl (nmake_c (l := digits (b.natAbs - a.natAbs)) rfl (digits_w _) (by have := sub_len (v := a.natAbs) hb; omega) hcap) (AllIn.sub (by first | exact trivial | exact And.intro (by repeat first | exact .head _ | apply List.Mem.tail) trivial | exact And.intro (by repeat first | exact .head _ | apply List.Mem.tail) (And.intro (by repeat first | exact .head _ | apply List.Mem.tail) trivial))) ?_
      rw [val_digits, sg_sub (Ne.symm h9) (by omega)]
      rintro ⟨A1, c1⟩ hcap1
      dsimp only at hcap1
      dsimp only [List.cons_append, List.nil_append]
      refine AJ_store (cs' := #[_, _]) (μ' := [_, _, _]) 8 0 rfl (by kernel_rfl) rfl rfl rfl rfl tyi_100 rfl (Nat.le_of_ble_eq_true rfl) rfl rfl rfl (fun _ => AllIn.sub (And.intro (by repeat first | exact .head _ | apply List.Mem.tail) (And.intro (by repeat first | exact .head _ | apply List.Mem.tail) (trivial)))) ?_
      refine AJ_done (by kernel_rfl) ?_
      refine QJ_then ?_
      refine CJ_ret ?_
      refine QJ_fin (.inl rfl) (μ' := []) (μr := _) (φ' := [dF A1 _]) (res_cell (vs := [_, _]) rfl rfl (by repeat first | exact .head _ | apply List.Mem.tail) tyi_100 rfl) (List.Perm.refl _) (AllIn.sub (And.intro (.head _) trivial)) ?_
      exact RetN.conv (Int.add_comm b a) ⟨(A1, c1), hcap1, rfl, rfl, rfl⟩

set_option maxRecDepth 100000 in
set_option maxHeartbeats 1000000 in
theorem nmul_c {a b : Int} {A B : Option Addr} {c d : Nat} (ha : dl a ≤ 40000) (hb : dl b ≤ 40000) (hc : dl a ≤ c) (hd : dl b ≤ d) : Tri Try.prog 94 [numV a A c, numV b B d] [] [numF a A, numF b B] (RetN (a * b)) := by
  refine Tri_of (N := 16) Try.func94 rfl ent_94 rfl rfl ?_
  intro w0 S0 T0
  show CJ _ _ _ [(0, _), (1, _)] _ _
  unfold dl at ha hb hc hd
  refine CJ_seq ?_
  refine CJ_reg ?_
  refine LJ_box (cs := #[_, _]) rfl rfl rfl rfl ?_
  intro b1
  refine LJ_box (cs := #[_, _]) rfl rfl rfl rfl ?_
  intro b2
  refine LJ_alloc (cs := #[_, _]) rfl rfl zer_100 rfl ?_
  intro b3
  refine LJ_nil ?_
  refine QJ_then ?_
  refine CJ_seq ?_
  refine CJ_regD mix (by kernel_rfl) (fun _ _ _ _ _ h => h) (selR [1, 2] _) _ (selR_sub _ _) (fun _ h => h) ?_
  first | refine AJ_y 0 rfl (by kernel_rfl) (by kernel_rfl) rfl rfl (YJ_fieldOwn rfl fld_100_0 rfl) ?_ | refine AJ_y 0 rfl (by kernel_rfl) (by kernel_rfl) rfl rfl (YJ_fieldAddr rfl fld_100_0) ?_
  first | refine AJ_y 1 rfl (by kernel_rfl) (by kernel_rfl) rfl rfl (YJ_loadL rfl tyi_4 (by repeat first | exact .head _ | apply List.Mem.tail) rfl) ?_ | refine AJ_y 1 rfl (by kernel_rfl) (by kernel_rfl) rfl rfl (YJ_loadFact rfl tyi_4 (by repeat first | exact .head _ | apply List.Mem.tail) rfl) ?_
  first | refine AJ_y 2 rfl (by kernel_rfl) (by kernel_rfl) rfl rfl (YJ_fieldOwn rfl fld_100_0 rfl) ?_ | refine AJ_y 2 rfl (by kernel_rfl) (by kernel_rfl) rfl rfl (YJ_fieldAddr rfl fld_100_0) ?_
  first | refine AJ_y 3 rfl (by kernel_rfl) (by kernel_rfl) rfl rfl (YJ_loadL rfl tyi_4 (by repeat first | exact .head _ | apply List.Mem.tail) rfl) ?_ | refine AJ_y 3 rfl (by kernel_rfl) (by kernel_rfl) rfl rfl (YJ_loadFact rfl tyi_4 (by repeat first | exact .head _ | apply List.Mem.tail) rfl) ?_
  refine AJ_y 4 rfl (by kernel_rfl) (by kernel_rfl) rfl rfl (YJ_neb rfl rfl ubool_4) ?_
  first | refine AJ_y 5 rfl (by kernel_rfl) (by kernel_rfl) rfl rfl (YJ_fieldOwn rfl fld_100_1 rfl) ?_ | refine AJ_y 5 rfl (by kernel_rfl) (by kernel_rfl) rfl rfl (YJ_fieldAddr rfl fld_100_1) ?_
  first | refine AJ_y 6 rfl (by kernel_rfl) (by kernel_rfl) rfl rfl (YJ_loadL rfl tyi_98 (by repeat first | exact .head _ | apply List.Mem.tail) rfl) ?_ | refine AJ_y 6 rfl (by kernel_rfl) (by kernel_rfl) rfl rfl (YJ_loadFact rfl tyi_98 (by repeat first | exact .head _ | apply List.Mem.tail) rfl) ?_
  first | refine AJ_y 7 rfl (by kernel_rfl) (by kernel_rfl) rfl rfl (YJ_fieldOwn rfl fld_100_1 rfl) ?_ | refine AJ_y 7 rfl (by kernel_rfl) (by kernel_rfl) rfl rfl (YJ_fieldAddr rfl fld_100_1) ?_
  first | refine AJ_y 8 rfl (by kernel_rfl) (by kernel_rfl) rfl rfl (YJ_loadL rfl tyi_98 (by repeat first | exact .head _ | apply List.Mem.tail) rfl) ?_ | refine AJ_y 8 rfl (by kernel_rfl) (by kernel_rfl) rfl rfl (YJ_loadFact rfl tyi_98 (by repeat first | exact .head _ | apply List.Mem.tail) rfl) ?_
  refine AJ_callX 9 rfl (by kernel_rfl) rfl rfl rfl rfl rfl (mmul_c (l := digits a.natAbs) (r := digits b.natAbs) rfl rfl (digits_w _) (digits_w _) (by omega) (by omega) hc hd) (AllIn.sub (And.intro (by repeat first | exact .head _ | apply List.Mem.tail) (And.intro (by repeat first | exact .head _ | apply List.Mem.tail) trivial))) ?_
  rintro ⟨A', c'⟩ hcap
  dsimp only at hcap
  dsimp only [List.cons_append, List.nil_append]
  rw [val_digits, val_digits] at hcap ⊢
  refine AJ_callX 10 rfl (by kernel_rfl) rfl rfl rfl rfl rfl (nmake_c (l := digits (a.natAbs * b.natAbs)) rfl (digits_w _) (by have := mul_len ha hb; omega) hcap) (AllIn.sub (by first | exact trivial | exact And.intro (by repeat first | exact .head _ | apply List.Mem.tail) trivial | exact And.intro (by repeat first | exact .head _ | apply List.Mem.tail) (And.intro (by repeat first | exact .head _ | apply List.Mem.tail) trivial))) ?_
  rw [val_digits, sg_mul]
  rintro ⟨A1, c1⟩ hcap1
  dsimp only at hcap1
  dsimp only [List.cons_append, List.nil_append]
  refine AJ_store (cs' := #[_, _]) (μ' := [_, _, _]) 11 0 rfl (by kernel_rfl) rfl rfl rfl rfl tyi_100 rfl (Nat.le_of_ble_eq_true rfl) rfl rfl rfl (fun _ => AllIn.sub (And.intro (by repeat first | exact .head _ | apply List.Mem.tail) (And.intro (by repeat first | exact .head _ | apply List.Mem.tail) (trivial)))) ?_
  refine AJ_done (by kernel_rfl) ?_
  refine QJ_then ?_
  refine CJ_ret ?_
  refine QJ_fin (.inl rfl) (μ' := []) (μr := _) (φ' := [dF A1 _]) (res_cell (vs := [_, _]) rfl rfl (by repeat first | exact .head _ | apply List.Mem.tail) tyi_100 rfl) (List.Perm.refl _) (AllIn.sub (And.intro (.head _) trivial)) ?_
  exact ⟨(A1, c1), hcap1, rfl, rfl, rfl⟩

end Go.Proofs.Ytbanlhlggkdanaa
