/- What the law MeshGrids needs. Part 2: the texts of N2 N3 L2 L3 P1 P2 P3 P4 Q1 Q2 Msh G1 G2 Itr Gro G3 G4 Grw H1 H2 H3 H4 H5 Frz T6 T7. -/
import Derived.Test.YtbanlhlggkdanaaFa
import Derived.LoopN
import Derived.LoopNIn
import Derived.ChangeKeysEq
import Derived.Laws.Pointers
import Derived.Sort.Grow
import Derived.Shelf.GgSortFunc.RowK
import Derived.Shelf.SlSortCmp.WholeK
import Derived.Ground.SlsfProg
set_option linter.unusedSimpArgs false
set_option linter.unusedVariables false
namespace Go.Proofs.Ytbanlhlggkdanaa
open Go.RowKit
theorem ent_46 : Enter Try.prog 46 = true := by kernel_rfl
theorem sg_add {a b : Int} (h : decide (a < 0) = decide (b < 0)) : sg (decide (a < 0)) (a.natAbs + b.natAbs) = a + b := by
 unfold sg
 rw [decide_eq_decide] at h
 by_cases h1 : a < 0
 ·rw [decide_eq_true h1, if_pos rfl]; omega
 ·rw [decide_eq_false h1, if_neg (by simp)]; omega
theorem sg_sub {a b : Int} (h : ¬ (decide (a < 0) = decide (b < 0))) (h1 : b.natAbs ≤ a.natAbs) : sg (decide (a < 0)) (a.natAbs - b.natAbs) = a + b := by
 unfold sg
 rw [decide_eq_decide] at h
 by_cases h1 : a < 0
 ·rw [decide_eq_true h1, if_pos rfl]; omega
 ·rw [decide_eq_false h1, if_neg (by simp)]; omega
theorem sgn_ge_zero {n : Int} : 0 ≤ sgn n ↔ 0 ≤ n := by have := sgn_cases n; omega
theorem dlv {v k : Nat} (h : (digits v).length ≤ k) : v < BB ^ k := by
 have := val_lt (digits_w v)
 rw [val_digits] at this
 exact Nat.lt_of_lt_of_le this (Nat.pow_le_pow_right BB_pos h)
theorem add_len {u v k l : Nat} (hu : (digits u).length ≤ k) (hv : (digits v).length ≤ l) : (digits (u + v)).length ≤ k + l + 1 := by
 apply digits_len
 have h1 := dlv hu
 have h2 := dlv hv
 have h3 : BB ^ k ≤ BB ^ (k + l) := Nat.pow_le_pow_right BB_pos (by omega)
 have h4 : BB ^ l ≤ BB ^ (k + l) := Nat.pow_le_pow_right BB_pos (by omega)
 have h5 : BB ^ (k + l + 1) = BB ^ (k + l) * BB := Nat.pow_succ _ _
 have h6 : BB ^ (k + l) * 2 ≤ BB ^ (k + l) * BB := Nat.mul_le_mul_left _ (by decide)
 omega
theorem sub_len {u v k : Nat} (hu : (digits u).length ≤ k) : (digits (u - v)).length ≤ k := digits_len (Nat.lt_of_le_of_lt (Nat.sub_le _ _) (dlv hu))
set_option maxRecDepth 100000 in
set_option maxHeartbeats 1000000 in
theorem nadd_c {a b : Int} {A B : Option Addr} {c d : Nat} (ha : dl a ≤ 40000) (hb : dl b ≤ 40000) (hc : dl a ≤ c) (hd : dl b ≤ d) : Tri Try.prog 46 [numV a A c, numV b B d] [] [numF a A, numF b B] (RetN (a + b)) := by
 refine Tri_of (N := 40) Try.func46 rfl ent_46 rfl rfl ?_
 intro w0 S0 T0
 show CJ _ _ _ [(0, _), (1, _)] _ _
 unfold dl at ha hb hc hd
 refine CJ_seq ?_
 refine CJ_reg ?_
 refine LJ_box (cs := #[_, _]) rfl rfl rfl rfl ?_
 intro b1
 refine LJ_box (cs := #[_, _]) rfl rfl rfl rfl ?_
 intro b2
 refine LJ_alloc (cs := #[_, _]) rfl rfl zer_100 rfl ?_
 intro b3
 refine LJ_nil ?_
 refine QJ_then ?_
 refine CJ_seq ?_
 refine CJ_seq ?_
 refine CJ_reg ?_
 refine LJ_y rfl rfl (YJ_fieldOwn rfl fld_100_0 rfl) ?_
 refine LJ_y rfl rfl (YJ_loadL rfl tyi_4 m2 rfl) ?_
 refine LJ_y rfl rfl (YJ_fieldOwn rfl fld_100_0 rfl) ?_
 refine LJ_y rfl rfl (YJ_loadL rfl tyi_4 m1 rfl) ?_
 refine LJ_y rfl rfl (YJ_eqb rfl rfl ubool_4) ?_
 refine LJ_nil ?_
 refine QJ_then ?_
 refine CJ_cond rfl (fun h9 => ?_) (fun h9 => ?_)
 ·try simp only [beq_iff_eq, beq_eq_false_iff_ne, ne_eq, decide_eq_true_eq, decide_eq_false_iff_not] at h9
  refine CJ_seq ?_
  refine CJ_regD mix (by kernel_rfl) (fun _ _ _ _ _ h => h) (selR [1, 2] _) _ (selR_sub _ _) (fun _ h => h) ?_
  refine AJ_y 0 rfl (by kernel_rfl) (by kernel_rfl) rfl rfl (YJ_fieldOwn rfl fld_100_0 rfl) ?_
  refine AJ_y 1 rfl (by kernel_rfl) (by kernel_rfl) rfl rfl (YJ_loadL rfl tyi_4 m1 rfl) ?_
  refine AJ_y 2 rfl (by kernel_rfl) (by kernel_rfl) rfl rfl (YJ_fieldOwn rfl fld_100_1 rfl) ?_
  refine AJ_y 3 rfl (by kernel_rfl) (by kernel_rfl) rfl rfl (YJ_loadL rfl tyi_98 m1 rfl) ?_
  refine AJ_y 4 rfl (by kernel_rfl) (by kernel_rfl) rfl rfl (YJ_fieldOwn rfl fld_100_1 rfl) ?_
  refine AJ_y 5 rfl (by kernel_rfl) (by kernel_rfl) rfl rfl (YJ_loadL rfl tyi_98 m0 rfl) ?_
  refine AJ_callX 6 rfl (by kernel_rfl) rfl rfl rfl rfl rfl (madd_c (l := digits a.natAbs) (r := digits b.natAbs) rfl rfl (digits_w _) (digits_w _) (by omega) (by omega) hc hd) (AllIn.sub (And.intro m0 (And.intro m1 trivial))) ?_
  rintro ⟨A', c'⟩ hcap
  dsimp only at hcap
  dsimp only [List.cons_append, List.nil_append]
  rw [val_digits, val_digits] at hcap ⊢
  refine AJ_callX 7 rfl (by kernel_rfl) rfl rfl rfl rfl rfl (nmake_c (l := digits (a.natAbs + b.natAbs)) rfl (digits_w _) (by have := add_len ha hb; omega) hcap) (AllIn.sub (by first | exact trivial | exact And.intro m0 trivial | exact And.intro (by repeat first | exact .head _ | apply List.Mem.tail) (And.intro (by repeat first | exact .head _ | apply List.Mem.tail) trivial))) ?_
  rw [val_digits, sg_add h9]
  rintro ⟨A1, c1⟩ hcap1
  dsimp only at hcap1
  dsimp only [List.cons_append, List.nil_append]
  refine AJ_store (cs' := #[_, _]) (μ' := [_, _, _]) 8 0 rfl (by kernel_rfl) rfl rfl rfl rfl tyi_100 rfl (Nat.le_of_ble_eq_true rfl) rfl rfl rfl (fun _ => AllIn.sub (And.intro m1 (And.intro m2 (trivial)))) ?_
  refine AJ_done (by kernel_rfl) ?_
  refine QJ_then ?_
  refine CJ_ret ?_
  refine QJ_then_ret ?_
  refine QJ_fin (.inl rfl) (μ' := []) (μr := _) (φ' := [dF A1 _]) (res_cell (vs := [_, _]) rfl rfl m0 tyi_100 rfl) (List.Perm.refl _) (AllIn.sub (And.intro (.head _) trivial)) ?_
  exact ⟨(A1, c1), hcap1, rfl, rfl, rfl⟩
 ·try simp only [beq_iff_eq, beq_eq_false_iff_ne, ne_eq, decide_eq_true_eq, decide_eq_false_iff_not] at h9
  refine CJ_skip ?_
  refine QJ_then ?_
  refine CJ_seq ?_
  refine CJ_seq ?_
  refine CJ_reg ?_
  refine LJ_y rfl rfl (YJ_fieldOwn rfl fld_100_1 rfl) ?_
  refine LJ_y rfl rfl (YJ_loadL rfl tyi_98 m2 rfl) ?_
  refine LJ_y rfl rfl (YJ_fieldOwn rfl fld_100_1 rfl) ?_
  refine LJ_y rfl rfl (YJ_loadL rfl tyi_98 m1 rfl) ?_
  refine LJ_call0 rfl rfl rfl rfl rfl (mcmp_c (l := digits a.natAbs) (r := digits b.natAbs) rfl rfl (digits_w _) (digits_w _) (by omega) (by omega) hc hd) (AllIn.sub (And.intro m0 (And.intro m1 trivial))) ?_
  rw [val_digits, val_digits]
  refine LJ_y rfl rfl (YJ_bin rfl rfl rfl) ?_
  refine LJ_nil ?_
  refine QJ_then ?_
  refine CJ_cond rfl (fun h23 => ?_) (fun h23 => ?_)
  ·try simp only [beq_iff_eq, beq_eq_false_iff_ne, ne_eq, decide_eq_true_eq, decide_eq_false_iff_not] at h23
   have h23 := sgn_ge_zero.1 h23
   refine CJ_seq ?_
   refine CJ_regD mix (by kernel_rfl) (fun _ _ _ _ _ h => h) (selR [1, 2] _) _ (selR_sub _ _) (fun _ h => h) ?_
   refine AJ_y 0 rfl (by kernel_rfl) (by kernel_rfl) rfl rfl (YJ_fieldOwn rfl fld_100_0 rfl) ?_
   refine AJ_y 1 rfl (by kernel_rfl) (by kernel_rfl) rfl rfl (YJ_loadL rfl tyi_4 m1 rfl) ?_
   refine AJ_y 2 rfl (by kernel_rfl) (by kernel_rfl) rfl rfl (YJ_fieldOwn rfl fld_100_1 rfl) ?_
   refine AJ_y 3 rfl (by kernel_rfl) (by kernel_rfl) rfl rfl (YJ_loadL rfl tyi_98 m1 rfl) ?_
   refine AJ_y 4 rfl (by kernel_rfl) (by kernel_rfl) rfl rfl (YJ_fieldOwn rfl fld_100_1 rfl) ?_
   refine AJ_y 5 rfl (by kernel_rfl) (by kernel_rfl) rfl rfl (YJ_loadL rfl tyi_98 m0 rfl) ?_
   refine AJ_callX 6 rfl (by kernel_rfl) rfl rfl rfl rfl rfl (msub_c (l := digits a.natAbs) (r := digits b.natAbs) rfl rfl (digits_w _) (digits_w _) (by omega) (by omega) hc hd) (AllIn.sub (And.intro m0 (And.intro m1 trivial))) ?_
   rintro ⟨A', c'⟩ hcap
   dsimp only at hcap
   dsimp only [List.cons_append, List.nil_append]
   rw [val_digits, val_digits] at hcap ⊢
   refine AJ_callX 7 rfl (by kernel_rfl) rfl rfl rfl rfl rfl (nmake_c (l := digits (a.natAbs - b.natAbs)) rfl (digits_w _) (by have := sub_len (v := b.natAbs) ha; omega) hcap) (AllIn.sub (by first | exact trivial | exact And.intro m0 trivial | exact And.intro (by repeat first | exact .head _ | apply List.Mem.tail) (And.intro (by repeat first | exact .head _ | apply List.Mem.tail) trivial))) ?_
   rw [val_digits, sg_sub h9 (by omega)]
   rintro ⟨A1, c1⟩ hcap1
   dsimp only at hcap1
   dsimp only [List.cons_append, List.nil_append]
   refine AJ_store (cs' := #[_, _]) (μ' := [_, _, _]) 8 0 rfl (by kernel_rfl) rfl rfl rfl rfl tyi_100 rfl (Nat.le_of_ble_eq_true rfl) rfl rfl rfl (fun _ => AllIn.sub (And.intro m1 (And.intro m2 (trivial)))) ?_
   refine AJ_done (by kernel_rfl) ?_
   refine QJ_then ?_
   refine CJ_ret ?_
   refine QJ_then_ret ?_
   refine QJ_fin (.inl rfl) (μ' := []) (μr := _) (φ' := [dF A1 _]) (res_cell (vs := [_, _]) rfl rfl m0 tyi_100 rfl) (List.Perm.refl _) (AllIn.sub (And.intro (.head _) trivial)) ?_
   exact ⟨(A1, c1), hcap1, rfl, rfl, rfl⟩
  ·try simp only [beq_iff_eq, beq_eq_false_iff_ne, ne_eq, decide_eq_true_eq, decide_eq_false_iff_not] at h23
   have h23 := mt sgn_ge_zero.2 h23
   refine CJ_skip ?_
   refine QJ_then ?_
   refine CJ_seq ?_
   refine CJ_regD mix (by kernel_rfl) (fun _ _ _ _ _ h => h) (selR [1, 2] _) _ (selR_sub _ _) (fun _ h => h) ?_
   refine AJ_y 0 rfl (by kernel_rfl) (by kernel_rfl) rfl rfl (YJ_fieldOwn rfl fld_100_0 rfl) ?_
   refine AJ_y 1 rfl (by kernel_rfl) (by kernel_rfl) rfl rfl (YJ_loadL rfl tyi_4 m0 rfl) ?_
   refine AJ_y 2 rfl (by kernel_rfl) (by kernel_rfl) rfl rfl (YJ_fieldOwn rfl fld_100_1 rfl) ?_
   refine AJ_y 3 rfl (by kernel_rfl) (by kernel_rfl) rfl rfl (YJ_loadL rfl tyi_98 m0 rfl) ?_
   refine AJ_y 4 rfl (by kernel_rfl) (by kernel_rfl) rfl rfl (YJ_fieldOwn rfl fld_100_1 rfl) ?_
   refine AJ_y 5 rfl (by kernel_rfl) (by kernel_rfl) rfl rfl (YJ_loadL rfl tyi_98 m1 rfl) ?_
   refine AJ_callX 6 rfl (by kernel_rfl) rfl rfl rfl rfl rfl (msub_c (l := digits b.natAbs) (r := digits a.natAbs) rfl rfl (digits_w _) (digits_w _) (by omega) (by omega) hd hc) (AllIn.sub (And.intro m1 (And.intro m0 trivial))) ?_
   rintro ⟨A', c'⟩ hcap
   dsimp only at hcap
   dsimp only [List.cons_append, List.nil_append]
   rw [val_digits, val_digits] at hcap ⊢
   refine AJ_callX 7 rfl (by kernel_rfl) rfl rfl rfl rfl rfl (nmake_c (l := digits (b.natAbs - a.natAbs)) rfl (digits_w _) (by have := sub_len (v := a.natAbs) hb; omega) hcap) (AllIn.sub (by first | exact trivial | exact And.intro m0 trivial | exact And.intro (by repeat first | exact .head _ | apply List.Mem.tail) (And.intro (by repeat first | exact .head _ | apply List.Mem.tail) trivial))) ?_
   rw [val_digits, sg_sub (Ne.symm h9) (by omega)]
   rintro ⟨A1, c1⟩ hcap1
   dsimp only at hcap1
   dsimp only [List.cons_append, List.nil_append]
   refine AJ_store (cs' := #[_, _]) (μ' := [_, _, _]) 8 0 rfl (by kernel_rfl) rfl rfl rfl rfl tyi_100 rfl (Nat.le_of_ble_eq_true rfl) rfl rfl rfl (fun _ => AllIn.sub (And.intro m1 (And.intro m2 (trivial)))) ?_
   refine AJ_done (by kernel_rfl) ?_
   refine QJ_then ?_
   refine CJ_ret ?_
   refine QJ_fin (.inl rfl) (μ' := []) (μr := _) (φ' := [dF A1 _]) (res_cell (vs := [_, _]) rfl rfl m0 tyi_100 rfl) (List.Perm.refl _) (AllIn.sub (And.intro (.head _) trivial)) ?_
   exact RetN.conv (Int.add_comm b a) ⟨(A1, c1), hcap1, rfl, rfl, rfl⟩
end Go.Proofs.Ytbanlhlggkdanaa
namespace Go.Proofs.Ytbanlhlggkdanaa
open Go.RowKit
theorem ent_81 : Enter Try.prog 81 = true := by kernel_rfl
theorem nat_of {x : Int} (h : 0 ≤ x) : ∃ n : Nat, x = (n : Int) := ⟨x.toNat, by omega⟩
theorem isW_val {hi lo : Nat} {a : Int} (h : IsW (hi : Int) (lo : Int) a) (r : R128 a) (h0 : ¬ a < 0) : sg false (val [lo, hi]) = a := by
 unfold IsW at h; unfold R128 at r
 simp only [sg, val, Bool.false_eq_true, if_false]
 unfold BB
 omega
theorem isW_val_neg {hi lo : Nat} {a : Int} (h : IsW (hi : Int) (lo : Int) (-a)) (r : R128 a) (h0 : a < 0) : sg true (val [lo, hi]) = a := by
 unfold IsW at h; unfold R128 at r
 simp only [sg, val, if_true]
 unfold BB
 omega
theorem isW_W64 {hi lo : Nat} {a : Int} (h : IsW (hi : Int) (lo : Int) a) : W64 [lo, hi] := by
 have := h.b
 exact W64.append (l := [lo]) (W64.one (by unfold BB; omega)) (W64.one (by unfold BB; omega))
set_option maxRecDepth 100000 in
set_option maxHeartbeats 1000000 in
theorem wnum_c {hi lo a : Int} (h : IsW hi lo a) (r : R128 a) : Tri Try.prog 81 [.agg #[.int .u64 hi, .int .u64 lo]] [] [] (RetN a) := by
 refine Tri_of (N := 20) Try.func81 rfl ent_81 rfl rfl ?_
 intro w0 S0 T0
 show CJ _ _ _ [(0, _)] _ _
 obtain ⟨hi, rfl⟩ := nat_of h.b.1
 obtain ⟨lo, rfl⟩ := nat_of h.b.2.2.1
 have hneg := h.neg r
 refine CJ_seq ?_
 refine CJ_reg ?_
 refine LJ_box (cs := #[_, _]) rfl rfl rfl rfl ?_
 intro b1
 refine LJ_alloc (cs := #[_, _]) rfl rfl zer_100 rfl ?_
 intro b2
 refine LJ_nil ?_
 refine QJ_then ?_
 refine CJ_seq ?_
 refine CJ_seq ?_
 refine CJ_reg ?_
 refine LJ_y rfl rfl (YJ_loadN (vs := [_, _]) rfl tyi_110 m1 rfl rfl) ?_
 refine LJ_call0 rfl rfl rfl rfl rfl (minus_c _ _) (AllIn.sub (by first | exact trivial | exact And.intro (by repeat first | exact .head _ | apply List.Mem.tail) trivial | exact And.intro (by repeat first | exact .head _ | apply List.Mem.tail) (And.intro (by repeat first | exact .head _ | apply List.Mem.tail) trivial))) ?_
 refine LJ_nil ?_
 refine QJ_then ?_
 refine CJ_cond rfl (fun h5 => ?_) (fun h5 => ?_)
 ·simp only [decide_eq_true_eq] at h5
  refine CJ_seq ?_
  refine CJ_reg ?_
  refine LJ_y rfl rfl (YJ_loadN (vs := [_, _]) rfl tyi_110 m1 rfl rfl) ?_
  refine LJ_callX rfl rfl rfl rfl rfl (turn_c h) (AllIn.sub (by first | exact trivial | exact And.intro (by repeat first | exact .head _ | apply List.Mem.tail) trivial | exact And.intro (by repeat first | exact .head _ | apply List.Mem.tail) (And.intro (by repeat first | exact .head _ | apply List.Mem.tail) trivial))) ?_
  rintro ⟨hi2, lo2⟩ h2
  dsimp only at h2
  obtain ⟨hi2, rfl⟩ := nat_of h2.b.1
  obtain ⟨lo2, rfl⟩ := nat_of h2.b.2.2.1
  dsimp only [wvP, List.cons_append, List.nil_append]
  refine LJ_alloc (cs := #[_, _]) rfl rfl zer_110 rfl ?_
  intro b3
  refine LJ_store (cs' := #[_, _]) (μ' := [_, _, _]) 0 rfl rfl rfl rfl tyi_110 rfl (Nat.le_of_ble_eq_true rfl) rfl rfl rfl ?_
  refine LJ_nil ?_
  refine QJ_then ?_
  refine CJ_seq ?_
  refine CJ_reg ?_
  refine LJ_y rfl rfl (YJ_fieldOwn rfl fld_110_1 rfl) ?_
  refine LJ_y rfl rfl (YJ_loadL rfl tyi_108 m0 rfl) ?_
  refine LJ_y rfl rfl (YJ_fieldOwn rfl fld_110_0 rfl) ?_
  refine LJ_y rfl rfl (YJ_loadL rfl tyi_108 m0 rfl) ?_
  refine LJ_buildSlice (cs := [_, _]) rfl rfl elt_98 zer_108 rfl (by decide) (pvs := [(_, _), (_, _)]) rfl rfl rfl ?_
  intro b4
  refine LJ_freeze ?_
  refine LJ_addF (r' := lF (some ⟨b4, 0, none⟩) [lo2, hi2]) (.head _) (fun w S h => cellsR_slice (n := 2) rfl w S h) ?_
  refine LJ_callX rfl rfl rfl rfl rfl (nmake_c (l := [lo2, hi2]) rfl (isW_W64 h2) (by simp) (by simp)) (AllIn.sub (by first | exact trivial | exact And.intro m0 trivial | exact And.intro (by repeat first | exact .head _ | apply List.Mem.tail) (And.intro (by repeat first | exact .head _ | apply List.Mem.tail) trivial))) ?_
  rw [isW_val_neg h2 r (hneg.1 h5)]
  rintro ⟨A1, c1⟩ hcap1
  dsimp only at hcap1
  dsimp only [List.cons_append, List.nil_append]
  refine LJ_store (cs' := #[_, _]) (μ' := [_, _, _]) 1 rfl rfl rfl rfl tyi_100 rfl (Nat.le_of_ble_eq_true rfl) rfl rfl rfl ?_
  refine LJ_nil ?_
  refine QJ_then ?_
  refine CJ_ret ?_
  refine QJ_then_ret ?_
  refine QJ_fin (.inl rfl) (μ' := []) (μr := _) (φ' := [numF a A1]) (res_cell (vs := [_, _]) rfl rfl m1 tyi_100 rfl) (List.Perm.refl _) (AllIn.sub (And.intro (.head _) trivial)) ?_
  exact ⟨(A1, c1), hcap1, rfl, rfl, rfl⟩
 ·simp only [decide_eq_false_iff_not] at h5
  refine CJ_skip ?_
  refine QJ_then ?_
  refine CJ_seq ?_
  refine CJ_reg ?_
  refine LJ_y rfl rfl (YJ_fieldOwn rfl fld_110_1 rfl) ?_
  refine LJ_y rfl rfl (YJ_loadL rfl tyi_108 m1 rfl) ?_
  refine LJ_y rfl rfl (YJ_fieldOwn rfl fld_110_0 rfl) ?_
  refine LJ_y rfl rfl (YJ_loadL rfl tyi_108 m1 rfl) ?_
  refine LJ_buildSlice (cs := [_, _]) rfl rfl elt_98 zer_108 rfl (by decide) (pvs := [(_, _), (_, _)]) rfl rfl rfl ?_
  intro b5
  refine LJ_freeze ?_
  refine LJ_addF (r' := lF (some ⟨b5, 0, none⟩) [lo, hi]) (.head _) (fun w S h => cellsR_slice (n := 2) rfl w S h) ?_
  refine LJ_callX rfl rfl rfl rfl rfl (nmake_c (l := [lo, hi]) rfl (isW_W64 h) (by simp) (by simp)) (AllIn.sub (by first | exact trivial | exact And.intro m0 trivial | exact And.intro (by repeat first | exact .head _ | apply List.Mem.tail) (And.intro (by repeat first | exact .head _ | apply List.Mem.tail) trivial))) ?_
  rw [isW_val h r (fun q => h5 (hneg.2 q))]
  rintro ⟨A1, c1⟩ hcap1
  dsimp only at hcap1
  dsimp only [List.cons_append, List.nil_append]
  refine LJ_store (cs' := #[_, _]) (μ' := [_, _]) 0 rfl rfl rfl rfl tyi_100 rfl (Nat.le_of_ble_eq_true rfl) rfl rfl rfl ?_
  refine LJ_nil ?_
  refine QJ_then ?_
  refine CJ_ret ?_
  refine QJ_fin (.inl rfl) (μ' := []) (μr := _) (φ' := [numF a A1]) (res_cell (vs := [_, _]) rfl rfl m0 tyi_100 rfl) (List.Perm.refl _) (AllIn.sub (And.intro (.head _) trivial)) ?_
  exact ⟨(A1, c1), hcap1, rfl, rfl, rfl⟩
end Go.Proofs.Ytbanlhlggkdanaa
namespace Go.Proofs.Ytbanlhlggkdanaa
open Go.RowKit
theorem I64.r {a : Int} (h : I64 a) : R128 a := by unfold I64 at h; unfold R128; omega
end Go.Proofs.Ytbanlhlggkdanaa
namespace Go.Proofs.Ytbanlhlggkdanaa
open Go.RowKit
theorem tyi_3 : tyi Try.prog 3 = some (false, 1) := by kernel_rfl
def T62 (x : Int) : Prop := -4611686018427387904 ≤ x ∧ x ≤ 4611686018427387904
theorem T62.i {x : Int} (h : T62 x) : I64 x := by unfold T62 at h; unfold I64; omega
theorem mul_T62 {x y : Int} (h : T62 x) (h' : T62 y) : -21267647932558653966460912964485513216 ≤ x * y ∧ x * y ≤ 21267647932558653966460912964485513216 := by
 have key : (x * y).natAbs ≤ 21267647932558653966460912964485513216 := by
  rw [Int.natAbs_mul]
  have h1 : x.natAbs ≤ 4611686018427387904 := by unfold T62 at h; omega
  have h2 : y.natAbs ≤ 4611686018427387904 := by unfold T62 at h'; omega
  exact Nat.le_trans (Nat.mul_le_mul h1 h2) (by decide)
 omega
theorem det_r {a b c d : Int} (ha : T62 a) (hb : T62 b) (hc : T62 c) (hd : T62 d) : R128 (det a b c d) := by
 have h1 := mul_T62 ha hd
 have h2 := mul_T62 hb hc
 unfold R128 det; omega
end Go.Proofs.Ytbanlhlggkdanaa
namespace Go.Proofs.Ytbanlhlggkdanaa
open Go.RowKit
theorem zer_23 : zer Try.prog 23 = some (.agg #[.int .i64 0, .int .i64 0]) := by kernel_rfl
theorem fld_23_0 : fld Try.prog 23 0 = some 0 := by kernel_rfl
theorem fld_23_1 : fld Try.prog 23 1 = some 1 := by kernel_rfl
theorem lay_23 : lay1 Try.prog 23 = some [.int .i64 0, .int .i64 0] := by kernel_rfl
theorem tyi_23 : tyi Try.prog 23 = some (true, 2) := by kernel_rfl
theorem ent_52 : Enter Try.prog 52 = true := by kernel_rfl
theorem ent_20 : Enter Try.prog 20 = true := by kernel_rfl
theorem ent_47 : Enter Try.prog 47 = true := by kernel_rfl
def Tm (x : Int) : Prop := -2147483648 ≤ x ∧ x ≤ 2147483648
def P2 (x y : Int) : Prop := Tm x ∧ Tm y
abbrev ptv (x y : Int) : Value := .agg #[.int .i64 x, .int .i64 y]
def A2 (a1 a2 e1 e2 c1 c2 : Int) : Int := det (e1 - a1) (e2 - a2) (c1 - a1) (c2 - a2)
theorem Tm.d {x y : Int} (h : Tm x) (h' : Tm y) : T62 (x - y) := by unfold Tm at h h'; unfold T62; omega
theorem Tm.i {x y : Int} (h : Tm x) (h' : Tm y) : -9223372036854775808 ≤ x - y ∧ x - y ≤ 9223372036854775807 := by unfold Tm at h h'; omega
theorem A2_r {a1 a2 e1 e2 c1 c2 : Int} (ha : P2 a1 a2) (hb : P2 e1 e2) (hc : P2 c1 c2) : R128 (A2 a1 a2 e1 e2 c1 c2) := det_r (hb.1.d ha.1) (hb.2.d ha.2) (hc.1.d ha.1) (hc.2.d ha.2)
theorem RetW.of {n m : Int} (h : n = m) {v : Value} {μ φ : List Res} (hr : RetW n v μ φ) : RetW m v μ φ := by subst h; exact hr
set_option maxRecDepth 100000 in
set_option maxHeartbeats 1000000 in
theorem parea2_c {a1 a2 e1 e2 c1 c2 : Int} (ha : P2 a1 a2) (hb : P2 e1 e2) (hc : P2 c1 c2) : Tri Try.prog 52 [ptv a1 a2, ptv e1 e2, ptv c1 c2] [] [] (RetW (A2 a1 a2 e1 e2 c1 c2)) := by
 refine Tri_of (N := 28) Try.func52 rfl ent_52 rfl rfl ?_
 intro w0 S0 T0
 show CJ _ _ _ [(0, _), (1, _), (2, _)] _ _
 refine CJ_seq ?_
 refine CJ_reg ?_
 refine LJ_box (cs := #[_, _]) rfl rfl rfl rfl ?_
 intro b1
 refine LJ_box (cs := #[_, _]) rfl rfl rfl rfl ?_
 intro b2
 refine LJ_box (cs := #[_, _]) rfl rfl rfl rfl ?_
 intro b3
 refine LJ_alloc (cs := #[_, _]) rfl rfl zer_110 rfl ?_
 intro b4
 refine LJ_nil ?_
 refine QJ_then ?_
 refine CJ_seq ?_
 refine CJ_reg ?_
 refine LJ_y rfl rfl (YJ_fieldOwn rfl fld_23_0 rfl) ?_
 refine LJ_y rfl rfl (YJ_loadL rfl tyi_3 m2 rfl) ?_
 refine LJ_y rfl rfl (YJ_fieldOwn rfl fld_23_0 rfl) ?_
 refine LJ_y rfl rfl (YJ_loadL rfl tyi_3 m3 rfl) ?_
 refine LJ_y rfl rfl (YJ_bin rfl rfl (iop_sub (hb.1.i ha.1))) ?_
 refine LJ_y rfl rfl (YJ_fieldOwn rfl fld_23_1 rfl) ?_
 refine LJ_y rfl rfl (YJ_loadL rfl tyi_3 m2 rfl) ?_
 refine LJ_y rfl rfl (YJ_fieldOwn rfl fld_23_1 rfl) ?_
 refine LJ_y rfl rfl (YJ_loadL rfl tyi_3 m3 rfl) ?_
 refine LJ_y rfl rfl (YJ_bin rfl rfl (iop_sub (hb.2.i ha.2))) ?_
 refine LJ_y rfl rfl (YJ_fieldOwn rfl fld_23_0 rfl) ?_
 refine LJ_y rfl rfl (YJ_loadL rfl tyi_3 m1 rfl) ?_
 refine LJ_y rfl rfl (YJ_fieldOwn rfl fld_23_0 rfl) ?_
 refine LJ_y rfl rfl (YJ_loadL rfl tyi_3 m3 rfl) ?_
 refine LJ_y rfl rfl (YJ_bin rfl rfl (iop_sub (hc.1.i ha.1))) ?_
 refine LJ_y rfl rfl (YJ_fieldOwn rfl fld_23_1 rfl) ?_
 refine LJ_y rfl rfl (YJ_loadL rfl tyi_3 m1 rfl) ?_
 refine LJ_y rfl rfl (YJ_fieldOwn rfl fld_23_1 rfl) ?_
 refine LJ_y rfl rfl (YJ_loadL rfl tyi_3 m3 rfl) ?_
 refine LJ_y rfl rfl (YJ_bin rfl rfl (iop_sub (hc.2.i ha.2))) ?_
 refine LJ_callX rfl rfl rfl rfl rfl (wdet_c (hb.1.d ha.1).i (hb.2.d ha.2).i (hc.1.d ha.1).i (hc.2.d ha.2).i) (AllIn.sub (by first | exact trivial | exact And.intro (by repeat first | exact .head _ | apply List.Mem.tail) trivial | exact And.intro (by repeat first | exact .head _ | apply List.Mem.tail) (And.intro (by repeat first | exact .head _ | apply List.Mem.tail) trivial))) ?_
 rw [if_pos (show R128 (det (e1 - a1) (e2 - a2) (c1 - a1) (c2 - a2)) from A2_r ha hb hc)]
 rintro ⟨hih, loh⟩ h
 dsimp only [wvP, List.cons_append, List.nil_append] at h ⊢
 refine LJ_store (cs' := #[_, _]) (μ' := [_, _, _, _]) 0 rfl rfl rfl rfl tyi_110 rfl (Nat.le_of_ble_eq_true rfl) rfl rfl rfl ?_
 refine LJ_nil ?_
 refine QJ_then ?_
 refine CJ_ret ?_
 refine QJ_fin (.inl rfl) (μ' := []) (μr := _) (φ' := []) (res_cell (vs := [_, _]) rfl rfl m0 tyi_110 rfl) (List.Perm.refl _) (fun _ h => nomatch h) ?_
 exact ⟨(hih, loh), h, rfl, rfl, rfl⟩
set_option maxRecDepth 100000 in
set_option maxHeartbeats 1000000 in
theorem orient_c {a1 a2 e1 e2 c1 c2 : Int} (ha : P2 a1 a2) (hb : P2 e1 e2) (hc : P2 c1 c2) : Tri Try.prog 20 [ptv a1 a2, ptv e1 e2, ptv c1 c2] [] [] (Ret0 (.int .i64 (sgn (A2 a1 a2 e1 e2 c1 c2)))) := by
 refine Tri_of (N := 12) Try.func20 rfl ent_20 rfl rfl ?_
 intro w0 S0 T0
 show CJ _ _ _ [(0, _), (1, _), (2, _)] _ _
 refine CJ_seq ?_
 refine CJ_reg ?_
 refine LJ_box (cs := #[_, _]) rfl rfl rfl rfl ?_
 intro b1
 refine LJ_box (cs := #[_, _]) rfl rfl rfl rfl ?_
 intro b2
 refine LJ_box (cs := #[_, _]) rfl rfl rfl rfl ?_
 intro b3
 refine LJ_y rfl rfl (YJ_assign rfl) ?_
 refine LJ_nil ?_
 refine QJ_then ?_
 refine CJ_seq ?_
 refine CJ_reg ?_
 refine LJ_y rfl rfl (YJ_loadN (vs := [_, _]) rfl tyi_23 m2 rfl rfl) ?_
 refine LJ_y rfl rfl (YJ_loadN (vs := [_, _]) rfl tyi_23 m1 rfl rfl) ?_
 refine LJ_y rfl rfl (YJ_loadN (vs := [_, _]) rfl tyi_23 m0 rfl rfl) ?_
 refine LJ_callX rfl rfl rfl rfl rfl (parea2_c ha hb hc) (AllIn.sub (by first | exact trivial | exact And.intro (by repeat first | exact .head _ | apply List.Mem.tail) trivial | exact And.intro (by repeat first | exact .head _ | apply List.Mem.tail) (And.intro (by repeat first | exact .head _ | apply List.Mem.tail) trivial))) ?_
 rintro ⟨hih, loh⟩ h
 dsimp only [wvP, List.cons_append, List.nil_append] at h ⊢
 refine LJ_call0 rfl rfl rfl rfl rfl (wsign_c h (A2_r ha hb hc)) (AllIn.sub (by first | exact trivial | exact And.intro (by repeat first | exact .head _ | apply List.Mem.tail) trivial | exact And.intro (by repeat first | exact .head _ | apply List.Mem.tail) (And.intro (by repeat first | exact .head _ | apply List.Mem.tail) trivial))) ?_
 refine LJ_y rfl rfl (YJ_assign rfl) ?_
 refine LJ_nil ?_
 refine QJ_then ?_
 refine CJ_ret ?_
 refine QJ_fin (.inl rfl) (μ' := []) (μr := _) (φ' := []) (res_tmp rfl rfl) (List.Perm.refl _) (fun _ h => nomatch h) ?_
 exact ⟨rfl, rfl, rfl⟩
set_option maxRecDepth 100000 in
set_option maxHeartbeats 1000000 in
theorem area2_c {a1 a2 e1 e2 c1 c2 : Int} (ha : P2 a1 a2) (hb : P2 e1 e2) (hc : P2 c1 c2) : Tri Try.prog 47 [ptv a1 a2, ptv e1 e2, ptv c1 c2] [] [] (RetN (A2 a1 a2 e1 e2 c1 c2)) := by
 refine Tri_of (N := 12) Try.func47 rfl ent_47 rfl rfl ?_
 intro w0 S0 T0
 show CJ _ _ _ [(0, _), (1, _), (2, _)] _ _
 refine CJ_seq ?_
 refine CJ_reg ?_
 refine LJ_box (cs := #[_, _]) rfl rfl rfl rfl ?_
 intro b1
 refine LJ_box (cs := #[_, _]) rfl rfl rfl rfl ?_
 intro b2
 refine LJ_box (cs := #[_, _]) rfl rfl rfl rfl ?_
 intro b3
 refine LJ_alloc (cs := #[_, _]) rfl rfl zer_100 rfl ?_
 intro b4
 refine LJ_nil ?_
 refine QJ_then ?_
 refine CJ_seq ?_
 refine CJ_reg ?_
 refine LJ_y rfl rfl (YJ_loadN (vs := [_, _]) rfl tyi_23 m3 rfl rfl) ?_
 refine LJ_y rfl rfl (YJ_loadN (vs := [_, _]) rfl tyi_23 m2 rfl rfl) ?_
 refine LJ_y rfl rfl (YJ_loadN (vs := [_, _]) rfl tyi_23 m1 rfl rfl) ?_
 refine LJ_callX rfl rfl rfl rfl rfl (parea2_c ha hb hc) (AllIn.sub (by first | exact trivial | exact And.intro (by repeat first | exact .head _ | apply List.Mem.tail) trivial | exact And.intro (by repeat first | exact .head _ | apply List.Mem.tail) (And.intro (by repeat first | exact .head _ | apply List.Mem.tail) trivial))) ?_
 rintro ⟨hih, loh⟩ h
 dsimp only [wvP, List.cons_append, List.nil_append] at h ⊢
 refine LJ_callX rfl rfl rfl rfl rfl (wnum_c h (A2_r ha hb hc)) (AllIn.sub (by first | exact trivial | exact And.intro (by repeat first | exact .head _ | apply List.Mem.tail) trivial | exact And.intro (by repeat first | exact .head _ | apply List.Mem.tail) (And.intro (by repeat first | exact .head _ | apply List.Mem.tail) trivial))) ?_
 rintro ⟨A1, k1⟩ hcap1
 dsimp only at hcap1
 dsimp only [List.cons_append, List.nil_append]
 refine LJ_store (cs' := #[_, _]) (μ' := [_, _, _, _]) 0 rfl rfl rfl rfl tyi_100 rfl (Nat.le_of_ble_eq_true rfl) rfl rfl rfl ?_
 refine LJ_nil ?_
 refine QJ_then ?_
 refine CJ_ret ?_
 refine QJ_fin (.inl rfl) (μ' := []) (μr := _) (φ' := [numF (A2 a1 a2 e1 e2 c1 c2) A1]) (res_cell (vs := [_, _]) rfl rfl m0 tyi_100 rfl) (List.Perm.refl _) (AllIn.sub (And.intro (.head _) trivial)) ?_
 exact ⟨(A1, k1), hcap1, rfl, rfl, rfl⟩
end Go.Proofs.Ytbanlhlggkdanaa
namespace Go.Proofs.Ytbanlhlggkdanaa
open Go.RowKit
theorem ulen_55 : ((#[55] : Array TypeId)[0]?).bind Try.prog.underlying = some (.slice (Try.prog.elem ((#[55] : Array TypeId).getD 0 0))) := by kernel_rfl
theorem elt_55 : elt Try.prog 55 = some (3, 1, 8) := by kernel_rfl
def S30 (x : Int) : Prop := -1073741824 ≤ x ∧ x ≤ 1073741824
instance (x : Int) : Decidable (S30 x) := inferInstanceAs (Decidable (_ ∧ _))
theorem mul_kl {x y k l : Int} (hx : -k ≤ x ∧ x ≤ k) (hy : 0 ≤ y ∧ y ≤ l) : -(k * l) ≤ x * y ∧ x * y ≤ k * l := by
 have h0 : 0 ≤ k := by omega
 have h2 : k * y ≤ k * l := Int.mul_le_mul_of_nonneg_left hy.2 h0
 constructor
 ·have h1 : -k * y ≤ x * y := Int.mul_le_mul_of_nonneg_right hx.1 hy.1
  rw [Int.neg_mul] at h1
  omega
 ·have h1 : x * y ≤ k * y := Int.mul_le_mul_of_nonneg_right hx.2 hy.1
  omega
theorem abs_kl {x y k l : Int} (hx : -k ≤ x ∧ x ≤ k) (hy : -l ≤ y ∧ y ≤ l) : -(k * l) ≤ x * y ∧ x * y ≤ k * l := by
 rcases Int.le_total 0 y with h | h
 ·exact mul_kl hx ⟨h, hy.2⟩
 ·have := mul_kl (y := -y) (l := l) hx ⟨by omega, by omega⟩
  rw [Int.mul_neg] at this
  omega
theorem S30.q {x : Int} (h : S30 x) : 0 ≤ x * x ∧ x * x ≤ 1152921504606846976 := by
 have h1 := abs_kl (x := x) (y := x) (k := 1073741824) (l := 1073741824) (by unfold S30 at h; omega) (by unfold S30 at h; omega)
 have h2 : 0 ≤ x * x := by
  rcases Int.le_total 0 x with h | h
  ·exact Int.mul_nonneg h h
  ·exact Int.mul_nonneg_of_nonpos_of_nonpos h h
 omega
theorem S30.i {x : Int} (h : S30 x) : I64 x := by unfold S30 at h; unfold I64; omega
theorem S30.det {a b c d : Int} (ha : S30 a) (hb : S30 b) (hc : S30 c) (hd : S30 d) : -2305843009213693952 ≤ det a b c d ∧ det a b c d ≤ 2305843009213693952 := by
 have h1 := abs_kl (x := a) (y := d) (k := 1073741824) (l := 1073741824) (by unfold S30 at ha; omega) (by unfold S30 at hd; omega)
 have h2 := abs_kl (x := b) (y := c) (k := 1073741824) (l := 1073741824) (by unfold S30 at hb; omega) (by unfold S30 at hc; omega)
 unfold Go.Proofs.Ytbanlhlggkdanaa.det; omega
end Go.Proofs.Ytbanlhlggkdanaa
namespace Go.Proofs.Ytbanlhlggkdanaa
open Go.RowKit
theorem zer_3 : zer Try.prog 3 = some (.int .i64 0) := by kernel_rfl
end Go.Proofs.Ytbanlhlggkdanaa
namespace Go.Proofs.Ytbanlhlggkdanaa
open Go.RowKit
theorem Tm.i64 {x : Int} (h : Tm x) : I64 x := by unfold Tm at h; unfold I64; omega
def OnL (p1 p2 a1 a2 e1 e2 : Int) : Prop := sgn (A2 a1 a2 e1 e2 p1 p2) = 0 ∧ min a1 e1 ≤ p1 ∧ p1 ≤ max a1 e1 ∧ min a2 e2 ≤ p2 ∧ p2 ≤ max a2 e2
instance (p1 p2 a1 a2 e1 e2 : Int) : Decidable (OnL p1 p2 a1 a2 e1 e2) := inferInstanceAs (Decidable (_ ∧ _))
def Crs (a1 a2 e1 e2 c1 c2 d1 d2 : Int) : Prop := sgn (A2 a1 a2 e1 e2 c1 c2) * sgn (A2 a1 a2 e1 e2 d1 d2) < 0 ∧ sgn (A2 c1 c2 d1 d2 a1 a2) * sgn (A2 c1 c2 d1 d2 e1 e2) < 0
instance (a1 a2 e1 e2 c1 c2 d1 d2 : Int) : Decidable (Crs a1 a2 e1 e2 c1 c2 d1 d2) := inferInstanceAs (Decidable (_ ∧ _))
def Mts (a1 a2 e1 e2 c1 c2 d1 d2 : Int) : Prop := Crs a1 a2 e1 e2 c1 c2 d1 d2 ∨ OnL a1 a2 c1 c2 d1 d2 ∨ OnL e1 e2 c1 c2 d1 d2 ∨ OnL c1 c2 a1 a2 e1 e2 ∨ OnL d1 d2 a1 a2 e1 e2
instance (a1 a2 e1 e2 c1 c2 d1 d2 : Int) : Decidable (Mts a1 a2 e1 e2 c1 c2 d1 d2) := inferInstanceAs (Decidable (_ ∨ _))
def Btw (p1 p2 a1 a2 e1 e2 : Int) : Prop := ¬ (p1 = a1 ∧ p2 = a2) ∧ ¬ (p1 = e1 ∧ p2 = e2) ∧ OnL p1 p2 a1 a2 e1 e2
instance (p1 p2 a1 a2 e1 e2 : Int) : Decidable (Btw p1 p2 a1 a2 e1 e2) := inferInstanceAs (Decidable (_ ∧ _))
def ptCells (l : List (Int × Int)) : List Value := l.flatMap fun p => [.int .i64 p.1, .int .i64 p.2]
theorem ptCells_get : ∀ {l : List (Int × Int)} {i : Nat}, i < l.length → ((ptCells l).drop (i * 2)).take 2 = [.int .i64 (l.getD i (0, 0)).1, .int .i64 (l.getD i (0, 0)).2]
 | [], i, h => by simp at h
 | u :: l, 0, h => by simp [ptCells]
 | u :: l, i + 1, h => by
  have := ptCells_get (l := l) (i := i) (by simpa using h)
  rw [List.getD_cons_succ, ← this, Nat.succ_mul]
  simp [ptCells]
theorem tmod_nat (a b : Nat) : Int.tmod ((a : Int) + 1) (b : Int) = (((a + 1) % b : Nat) : Int) := by
 rw [Int.tmod_eq_emod_of_nonneg (by omega), Int.natCast_emod, Int.natCast_add]; rfl
end Go.Proofs.Ytbanlhlggkdanaa
namespace Go.Proofs.Ytbanlhlggkdanaa
open Go.RowKit
end Go.Proofs.Ytbanlhlggkdanaa
namespace Go.Proofs.Ytbanlhlggkdanaa
open Go.RowKit
end Go.Proofs.Ytbanlhlggkdanaa
namespace Go.Proofs.Ytbanlhlggkdanaa
open Go.RowKit
theorem wr_all {cs : Array Value} {vs : List Value} (h : vs.length = cs.size) : wr cs 0 vs = vs.toArray := by
 rw [← Array.toList_inj, wr_list vs cs 0 (by omega)]
 simp [h]
section
variable {E : Env} {ty : TypeId} {σ : List (Nat × Value)} {μ φ : List Res}
theorem YJ_nilCheck {x : Operand} {ad : Addr} (hx : oev σ x = some (.pointer (some ad))) : YJ E (.nilCheck x) ty σ μ φ (.pointer (some ad)) := fun ac w _ _ _ _ hs _ _ => by
 simp only [execOp, hs.ev hx]
 simp
theorem YJ_ixArrP {xt e : TypeId} {x y : Operand} {ad : Addr} {n size : Nat} {k : IntKind} {i : Int} (hx : oev σ x = some (.pointer (some ad))) (hy : oev σ y = some (.int k i)) (he : arrt E.P xt = some (n, e, size)) (h0 : 0 ≤ i) (h1 : i < n) :
  YJ E (.indexAddr xt x y) ty σ μ φ (.pointer (some (ad.add (i.toNat * size)))) := fun ac w _ _ _ _ hs _ _ => by
 unfold arrt at he
 cases hu : E.P.underlying xt with
 | none => rw [hu] at he; simp at he
 | some d =>
  rw [hu] at he
  cases d <;> simp at he
  rename_i n' e'
  obtain ⟨i', hi, rfl, rfl, rfl⟩ := he
  simp only [execOp, hs.ev hx, hs.ev hy]
  simp [Instr.indexAt, asIntOf, run_underlying hu, sizeOf, typeInfo, hi, h0, h1, Instr.sureAddr]
theorem YJ_loadFactP {t : TypeId} {x : Operand} {A : Option Addr} {ad : Addr} {n j size : Nat} {xs : List Value} {v : Value} (hx : oev σ x = some (.pointer (some ad))) (ha : ad = (adr A).add j) (ht : tyi E.P t = some (false, 1)) (hm : sliceR size A n xs ∈ φ) (hc : xs[j]? = some v) :
  YJ E (.load t x) ty σ μ φ v := by subst ha; exact YJ_loadFact hx ht hm hc
theorem YJ_loadFactNP {t : TypeId} {x : Operand} {A : Option Addr} {ad : Addr} {n j size m : Nat} {xs vs : List Value} (hx : oev σ x = some (.pointer (some ad))) (ha : ad = (adr A).add j) (ht : tyi E.P t = some (true, m)) (hm : sliceR size A n xs ∈ φ) (hc : (xs.drop j).take m = vs) (hl : vs.length = m) :
  YJ E (.load t x) ty σ μ φ (.agg vs.toArray) := by subst ha; exact YJ_loadFactN hx ht hm hc hl
end
section
variable {E : Env} {Q : Qt} {σ : List (Nat × Value)} {μ φ : List Res}
def CN (n : Nat) (E : Env) (Q : Qt) (c : Code) (σ : List (Nat × Value)) (μ φ : List Res) : Prop := ∀ a w, OKa E σ a → OKm E μ φ w → Code.rounds E.P c Q n a w
theorem CJ_loopN {c : Code} (n : Nat) (h : CN n E Q c σ μ φ) : CJ E Q (.loop c) σ μ φ := fun a w ha hm => wp_loop_rounds n (h a w ha hm)
theorem CN_succ {c : Code} {n : Nat} (h : CJ E (Exit.then (Code.rounds E.P c Q n) Q) c σ μ φ) : CN (n + 1) E Q c σ μ φ := fun a w ha hm => h a w ha hm
theorem QJ_thenN {c : Code} {n : Nat} (h : CN n E Q c σ μ φ) : QJ E (Exit.then (Code.rounds E.P c Q n) Q) .normal σ μ φ := fun a w ha hm => h a w ha hm
end
structure Tr where
 v0 : Int
 v1 : Int
 v2 : Int
 n0 : Int
 n1 : Int
 n2 : Int
 f0 : Bool
 f1 : Bool
 f2 : Bool
def Tr.cells (t : Tr) : List Value := [.int .i64 t.v0, .int .i64 t.v1, .int .i64 t.v2, .int .i64 t.n0, .int .i64 t.n1, .int .i64 t.n2, .bool t.f0, .bool t.f1, .bool t.f2]
def trCells (l : List Tr) : List Value := l.flatMap Tr.cells
theorem trCells_get : ∀ {l : List Tr} {i j : Nat} {t : Tr}, l[i]? = some t → j < 9 → (trCells l)[i * 9 + j]? = t.cells[j]?
 | [], i, _, t, h, _ => by simp at h
 | u :: l, 0, j, t, h, hj => by
  simp at h
  subst h
  simp only [trCells, List.flatMap_cons, Nat.zero_mul, Nat.zero_add]
  exact List.getElem?_append_left (by simpa [Tr.cells] using hj)
 | u :: l, i + 1, j, t, h, hj => by
  have := trCells_get (l := l) (i := i) (j := j) (t := t) (by simpa using h) hj
  rw [← this, Nat.succ_mul]
  simp only [trCells, List.flatMap_cons]
  rw [List.getElem?_append_right (by simp [Tr.cells]; omega)]
  congr 1
  simp [Tr.cells]; omega
theorem trCells_row : ∀ {l : List Tr} {i : Nat} {t : Tr}, l[i]? = some t → ((trCells l).drop (i * 9)).take 9 = t.cells
 | [], i, t, h => by simp at h
 | u :: l, 0, t, h => by
  simp at h
  subst h
  simp [trCells, Tr.cells]
 | u :: l, i + 1, t, h => by
  have := trCells_row (l := l) (i := i) (t := t) (by simpa using h)
  rw [← this, Nat.succ_mul]
  simp [trCells, Tr.cells]
structure Mh where
 P : Option Addr
 cp : Nat
 T : Option Addr
 ct : Nat
 F : Option Addr
 nf : Nat
 cf : Nat
 A : Option Addr
 na : Nat
 ca : Nat
def meshFs (B : Nat) (h : Mh) (pts : List (Int × Int)) (tris : List Tr) : List Res :=
 [sliceR 4 (some ⟨B, 0, none⟩) 1 [.slice h.P pts.length h.cp, .slice h.T tris.length h.ct, .slice h.F h.nf h.cf, .slice h.A h.na h.ca], sliceR 2 h.P pts.length (ptCells pts), sliceR 9 h.T tris.length (trCells tris)]
end Go.Proofs.Ytbanlhlggkdanaa
namespace Go.Proofs.Ytbanlhlggkdanaa
open Go.RowKit
theorem tyi_54 : tyi Try.prog 54 = some (false, 1) := by kernel_rfl
theorem tyi_34 : tyi Try.prog 34 = some (true, 3) := by kernel_rfl
theorem elt_54 : elt Try.prog 54 = some (37, 9, 56) := by kernel_rfl
theorem ent_26 : Enter Try.prog 26 = true := by kernel_rfl
theorem fld_57_1 : fld Try.prog 57 1 = some 1 := by kernel_rfl
theorem ulen_54 : ((#[54] : Array TypeId)[0]?).bind Try.prog.underlying = some (.slice (Try.prog.elem ((#[54] : Array TypeId).getD 0 0))) := by kernel_rfl
theorem fld_37_0 : fld Try.prog 37 0 = some 0 := by kernel_rfl
theorem zer_34 : zer Try.prog 34 = some (.agg #[.int .i64 0, .int .i64 0, .int .i64 0]) := by kernel_rfl
theorem arrt_34 : arrt Try.prog 34 = some (3, 3, 1) := by kernel_rfl
theorem tyi_26 : tyi Try.prog 26 = some (false, 1) := by kernel_rfl
theorem elt_26 : elt Try.prog 26 = some (23, 2, 16) := by kernel_rfl
theorem fld_57_0 : fld Try.prog 57 0 = some 0 := by kernel_rfl
theorem tyi_37 : tyi Try.prog 37 = some (true, 9) := by kernel_rfl
theorem zer_37 : zer Try.prog 37 = some (.agg #[.int .i64 0, .int .i64 0, .int .i64 0, .int .i64 0, .int .i64 0, .int .i64 0, .bool false, .bool false, .bool false]) := by kernel_rfl
def Tr.real (t : Tr) : Prop := 0 ≤ t.v0 ∧ 0 ≤ t.v1 ∧ 0 ≤ t.v2
instance (t : Tr) : Decidable t.real := inferInstanceAs (Decidable (_ ∧ _))
def isReal (tris : List Tr) (i : Int) : Prop := 0 ≤ i ∧ ∃ t, tris[i.toNat]? = some t ∧ t.real
instance (tris : List Tr) (i : Int) : Decidable (isReal tris i) := by
 unfold isReal
 cases h : tris[i.toNat]? with
 | none => exact isFalse (fun q => by obtain ⟨_, t, ht, _⟩ := q; cases ht)
 | some t => exact if q : 0 ≤ i ∧ t.real then isTrue ⟨q.1, t, rfl, q.2⟩ else isFalse (fun r => by obtain ⟨h0, u, hu, hr⟩ := r; cases hu; exact q ⟨h0, hr⟩)
theorem trCells_v {l : List Tr} {i : Nat} {t : Tr} (h : l[i]? = some t) : ((trCells l).drop (i * 9)).take 3 = [.int .i64 t.v0, .int .i64 t.v1, .int .i64 t.v2] := by
 have := congrArg (List.take 3) (trCells_row h)
 rw [List.take_take] at this
 exact this
theorem get_of_lt {tris : List Tr} {i : Int} (h0 : ¬ i < 0) (h1 : ¬ (tris.length : Int) ≤ i) : ∃ t, tris[i.toNat]? = some t :=
 ⟨tris[i.toNat]'(by omega), List.getElem?_eq_getElem (by omega)⟩
theorem not_real {tris : List Tr} {i : Int} (h : i < 0 ∨ (tris.length : Int) ≤ i) : ¬ isReal tris i := fun ⟨h0, t, ht, _⟩ => by
 have : i.toNat < tris.length := by
  rcases Nat.lt_or_ge i.toNat tris.length with q | q
  ·exact q
  ·rw [List.getElem?_eq_none q] at ht; cases ht
 omega
theorem real_iff {tris : List Tr} {i : Int} {t : Tr} (h0 : ¬ i < 0) (ht : tris[i.toNat]? = some t) : isReal tris i ↔ t.real :=
 ⟨fun ⟨_, u, hu, hr⟩ => by rw [ht] at hu; cases hu; exact hr, fun hr => ⟨by omega, t, ht, hr⟩⟩
set_option maxRecDepth 100000 in
set_option maxHeartbeats 1000000 in
theorem real_c {B : Nat} {h : Mh} {pts : List (Int × Int)} {tris : List Tr} {i : Int} : Tri Try.prog 26 [.pointer (some ⟨B, 0, none⟩), .int .i64 i] [] (meshFs B h pts tris) (Ret0 (.bool (decide (isReal tris i)))) := by
 refine Tri_of (N := 38) Try.func26 rfl ent_26 rfl rfl ?_
 intro w0 S0 T0
 show CJ _ _ _ [(0, _), (1, _)] _ _
 refine CJ_seq ?_
 refine CJ_reg ?_
 refine LJ_y rfl rfl (YJ_assign rfl) ?_
 refine LJ_nil ?_
 refine QJ_then ?_
 refine CJ_seq ?_
 refine CJ_seq ?_
 refine CJ_reg ?_
 refine LJ_y rfl rfl (YJ_move rfl) ?_
 refine LJ_y rfl rfl (YJ_bin rfl rfl rfl) ?_
 refine LJ_y rfl rfl (YJ_move rfl) ?_
 refine LJ_boolC (fun h8 => ?_) (fun h8 => ?_)
 ·simp only [decide_eq_true_eq] at h8
  refine LJ_skip rfl rfl ?_
  refine LJ_skip rfl rfl ?_
  refine LJ_skip rfl rfl ?_
  refine LJ_skip rfl rfl ?_
  refine LJ_skip rfl rfl ?_
  refine LJ_skip rfl rfl ?_
  refine LJ_skip rfl rfl ?_
  refine LJ_y rfl rfl (YJ_pickT rfl rfl) ?_
  refine LJ_nil ?_
  refine QJ_then ?_
  refine CJ_condT rfl ?_
  refine CJ_seq ?_
  refine CJ_reg ?_
  refine LJ_y rfl rfl (YJ_assign rfl) ?_
  refine LJ_nil ?_
  refine QJ_then ?_
  refine CJ_ret ?_
  refine QJ_then_ret ?_
  refine QJ_fin (.inl rfl) (μ' := []) (μr := _) (φ' := []) (res_tmp rfl rfl) (List.Perm.refl _) (fun _ h => nomatch h) ?_
  exact ⟨congrArg Value.bool (decide_eq_false (not_real (.inl h8))).symm, rfl, rfl⟩
 ·simp only [decide_eq_false_iff_not] at h8
  refine LJ_y rfl rfl (YJ_move rfl) ?_
  refine LJ_y rfl rfl (YJ_move rfl) ?_
  refine LJ_y rfl rfl (YJ_nilCheck rfl) ?_
  refine LJ_y rfl rfl (YJ_fieldOwn rfl fld_57_1 rfl) ?_
  refine LJ_y rfl rfl (YJ_loadFactP (A := some ⟨B, 0, none⟩) (j := 1) rfl rfl tyi_54 m0 rfl) ?_
  refine LJ_y rfl rfl (YJ_len rfl ulen_54 rfl) ?_
  refine LJ_y rfl rfl (YJ_bin rfl rfl rfl) ?_
  refine LJ_y rfl rfl (YJ_pickF rfl rfl) ?_
  refine LJ_nil ?_
  refine QJ_then ?_
  refine CJ_cond rfl (fun h16 => ?_) (fun h16 => ?_)
  ·simp only [decide_eq_true_eq] at h16
   refine CJ_seq ?_
   refine CJ_reg ?_
   refine LJ_y rfl rfl (YJ_assign rfl) ?_
   refine LJ_nil ?_
   refine QJ_then ?_
   refine CJ_ret ?_
   refine QJ_then_ret ?_
   refine QJ_fin (.inl rfl) (μ' := []) (μr := _) (φ' := []) (res_tmp rfl rfl) (List.Perm.refl _) (fun _ h => nomatch h) ?_
   exact ⟨congrArg Value.bool (decide_eq_false (not_real (.inr h16))).symm, rfl, rfl⟩
  ·simp only [decide_eq_false_iff_not] at h16
   obtain ⟨t, ht⟩ := get_of_lt h8 h16
   have hi := real_iff h8 ht
   refine CJ_skip ?_
   refine QJ_then ?_
   refine CJ_seq ?_
   refine CJ_reg ?_
   refine LJ_y rfl rfl (YJ_move rfl) ?_
   refine LJ_y rfl rfl (YJ_nilCheck rfl) ?_
   refine LJ_y rfl rfl (YJ_fieldOwn rfl fld_57_1 rfl) ?_
   refine LJ_y rfl rfl (YJ_loadFactP (A := some ⟨B, 0, none⟩) (j := 1) rfl rfl tyi_54 m0 rfl) ?_
   refine LJ_y rfl rfl (YJ_move rfl) ?_
   refine LJ_y rfl rfl (YJ_ixFact rfl rfl elt_54 m2 (by decide) (by omega) (by omega) (by omega)) ?_
   refine LJ_y rfl rfl (YJ_fieldAddr rfl fld_37_0) ?_
   refine LJ_y rfl rfl (YJ_loadFactNP (A := h.T) (j := i.toNat * 9) (vs := [.int .i64 t.v0, .int .i64 t.v1, .int .i64 t.v2]) rfl (Addr.add_add ..) tyi_34 m2 (trCells_v ht) rfl) ?_
   refine LJ_alloc (cs := #[_, _, _]) rfl rfl zer_34 rfl ?_
   intro b1
   refine LJ_store (cs' := #[_, _, _]) (μ' := [_]) 0 rfl rfl rfl rfl tyi_34 rfl (Nat.le_of_ble_eq_true rfl) rfl rfl rfl ?_
   refine LJ_nil ?_
   refine QJ_then ?_
   refine CJ_seq ?_
   refine CJ_reg ?_
   refine LJ_y rfl rfl (YJ_ixArr rfl rfl arrt_34 (by omega) (by omega) rfl) ?_
   refine LJ_y rfl rfl (YJ_loadL rfl tyi_3 m0 rfl) ?_
   refine LJ_y rfl rfl (YJ_bin rfl rfl rfl) ?_
   refine LJ_y rfl rfl (YJ_move rfl) ?_
   refine LJ_boolC (fun h28 => ?_) (fun h28 => ?_)
   ·simp only [decide_eq_true_eq] at h28
    refine LJ_y rfl rfl (YJ_ixArr rfl rfl arrt_34 (by omega) (by omega) rfl) ?_
    refine LJ_y rfl rfl (YJ_loadL rfl tyi_3 m0 rfl) ?_
    refine LJ_y rfl rfl (YJ_bin rfl rfl rfl) ?_
    refine LJ_y rfl rfl (YJ_pickT rfl rfl) ?_
    refine LJ_y rfl rfl (YJ_move rfl) ?_
    refine LJ_boolC (fun h33 => ?_) (fun h33 => ?_)
    ·simp only [decide_eq_true_eq] at h33
     refine LJ_y rfl rfl (YJ_ixArr rfl rfl arrt_34 (by omega) (by omega) rfl) ?_
     refine LJ_y rfl rfl (YJ_loadL rfl tyi_3 m0 rfl) ?_
     refine LJ_y rfl rfl (YJ_bin rfl rfl rfl) ?_
     refine LJ_y rfl rfl (YJ_pickT rfl rfl) ?_
     refine LJ_y rfl rfl (YJ_assign rfl) ?_
     refine LJ_nil ?_
     refine QJ_then ?_
     refine CJ_ret ?_
     refine QJ_fin (.inl rfl) (μ' := []) (μr := _) (φ' := []) (res_tmp rfl rfl) (List.Perm.refl _) (fun _ h => nomatch h) ?_
     exact ⟨congrArg Value.bool (by first | (symm; rw [decide_eq_false_iff_not, hi]; unfold Tr.real; omega) | (symm; rw [decide_eq_decide, hi]; unfold Tr.real; omega)), rfl, rfl⟩
    ·simp only [decide_eq_false_iff_not] at h33
     refine LJ_skip rfl rfl ?_
     refine LJ_skip rfl rfl ?_
     refine LJ_skip rfl rfl ?_
     refine LJ_y rfl rfl (YJ_pickF rfl rfl) ?_
     refine LJ_y rfl rfl (YJ_assign rfl) ?_
     refine LJ_nil ?_
     refine QJ_then ?_
     refine CJ_ret ?_
     refine QJ_fin (.inl rfl) (μ' := []) (μr := _) (φ' := []) (res_tmp rfl rfl) (List.Perm.refl _) (fun _ h => nomatch h) ?_
     exact ⟨congrArg Value.bool (by first | (symm; rw [decide_eq_false_iff_not, hi]; unfold Tr.real; omega) | (symm; rw [decide_eq_decide, hi]; unfold Tr.real; omega)), rfl, rfl⟩
   ·simp only [decide_eq_false_iff_not] at h28
    refine LJ_skip rfl rfl ?_
    refine LJ_skip rfl rfl ?_
    refine LJ_skip rfl rfl ?_
    refine LJ_y rfl rfl (YJ_pickF rfl rfl) ?_
    refine LJ_y rfl rfl (YJ_move rfl) ?_
    refine LJ_skip rfl rfl ?_
    refine LJ_skip rfl rfl ?_
    refine LJ_skip rfl rfl ?_
    refine LJ_y rfl rfl (YJ_pickF rfl rfl) ?_
    refine LJ_y rfl rfl (YJ_assign rfl) ?_
    refine LJ_nil ?_
    refine QJ_then ?_
    refine CJ_ret ?_
    refine QJ_fin (.inl rfl) (μ' := []) (μr := _) (φ' := []) (res_tmp rfl rfl) (List.Perm.refl _) (fun _ h => nomatch h) ?_
    exact ⟨congrArg Value.bool (by first | (symm; rw [decide_eq_false_iff_not, hi]; unfold Tr.real; omega) | (symm; rw [decide_eq_decide, hi]; unfold Tr.real; omega)), rfl, rfl⟩
def at3 (a b c : Int) (i : Nat) : Int := if i = 0 then a else if i = 1 then b else c
def Tr.v (t : Tr) (i : Nat) : Int := at3 t.v0 t.v1 t.v2 i
def Tr.n (t : Tr) (i : Nat) : Int := at3 t.n0 t.n1 t.n2 i
def ptAt (pts : List (Int × Int)) (i : Int) : Int × Int := pts.getD i.toNat (0, 0)
def bey (pts : List (Int × Int)) (t : Tr) (i : Nat) (p : Int × Int) : Prop :=
 A2 (ptAt pts (t.v ((i + 1) % 3))).1 (ptAt pts (t.v ((i + 1) % 3))).2 (ptAt pts (t.v ((i + 2) % 3))).1 (ptAt pts (t.v ((i + 2) % 3))).2 p.1 p.2 < 0
instance (pts : List (Int × Int)) (t : Tr) (i : Nat) (p : Int × Int) : Decidable (bey pts t i p) := inferInstanceAs (Decidable (_ < _))
def Tr.ok (t : Tr) (n : Nat) : Prop := (0 ≤ t.v0 ∧ t.v0 < n) ∧ (0 ≤ t.v1 ∧ t.v1 < n) ∧ (0 ≤ t.v2 ∧ t.v2 < n)
def hld (pts : List (Int × Int)) (t : Tr) (p : Int × Int) : Prop := ¬ bey pts t 0 p ∧ ¬ bey pts t 1 p ∧ ¬ bey pts t 2 p
instance (pts : List (Int × Int)) (t : Tr) (p : Int × Int) : Decidable (hld pts t p) := inferInstanceAs (Decidable (_ ∧ _))
end Go.Proofs.Ytbanlhlggkdanaa
namespace Go.Proofs.Ytbanlhlggkdanaa
open Go.RowKit
abbrev Pl := Int × Int × Int × Int
def edge (pts : List (Int × Int)) (t : Tr) (k : Nat) (p : Int × Int) : Prop :=
 A2 (ptAt pts (t.v ((k + 1) % 3))).1 (ptAt pts (t.v ((k + 1) % 3))).2 (ptAt pts (t.v ((k + 2) % 3))).1 (ptAt pts (t.v ((k + 2) % 3))).2 p.1 p.2 = 0
instance (pts : List (Int × Int)) (t : Tr) (k : Nat) (p : Int × Int) : Decidable (edge pts t k p) := inferInstanceAs (Decidable (_ = _))
def place (pts : List (Int × Int)) (t : Tr) (i : Int) (p : Int × Int) : Pl :=
 if ptAt pts t.v0 = p then (2, i, t.v0, 0) else if ptAt pts t.v1 = p then (2, i, t.v1, 0) else if ptAt pts t.v2 = p then (2, i, t.v2, 0)
 else if edge pts t 0 p then (1, i, min t.v1 t.v2, max t.v1 t.v2) else if edge pts t 1 p then (1, i, min t.v2 t.v0, max t.v2 t.v0) else if edge pts t 2 p then (1, i, min t.v0 t.v1, max t.v0 t.v1)
 else (0, i, 0, 0)
end Go.Proofs.Ytbanlhlggkdanaa
namespace Go.Proofs.Ytbanlhlggkdanaa
open Go.RowKit
def objR (b : Nat) (o : Obj) : Res where
 p w S := w.heap[b]? = some o ∧ ∀ k, S k ↔ k = b
 loc := fun {w w' S} ⟨h, hs⟩ hk => ⟨(hk b ((hs b).2 rfl)).trans h, hs⟩
 lt := fun {w S k} ⟨h, hs⟩ hk => by
  have e := (hs k).1 hk
  subst e
  rcases Nat.lt_or_ge k w.heap.size with h' | h'
  ·exact h'
  ·rw [Array.getElem?_eq_none h'] at h; cases h
abbrev defR (D : Nat) : Res := objR D (.deferred (some []))
def markD (D : Nat) : Deferred := { target := .collected D, args := #[] }
def TP (w0 : World) (S0 T0 : Nat → Prop) (post : Value → List Res → List Res → Prop) : Ending → World → Prop := fun e w' =>
 ∃ v μ' φ', e = .returned v ∧ post v μ' φ' ∧ Keeps S0 w0 w' ∧
   ∃ S' T' : Nat → Prop, Sep w' μ' S' ∧ Fac w' φ' T' ∧ (∀ k, S' k → ¬ T' k) ∧ (∀ k, S' k → S0 k ∨ w0.heap.size ≤ k) ∧ (∀ k, T' k → T0 k ∨ S0 k ∨ w0.heap.size ≤ k) ∧ ∀ k, T' k → k < w'.heap.size
def YTri (P : Program) (l : Nat) (args : List Value) (μ φ : List Res) (post : Value → List Res → List Res → Prop) : Prop :=
 ∀ (w : World) (S T : Nat → Prop), Sep w μ S → Fac w φ T → (∀ k, S k → ¬ T k) → (∀ k, T k → k < w.heap.size) →
  ∃ fn tmps assign body, (Instr.yield l args.toArray).run P w = .ok (.round l fn tmps assign body) w ∧ RoundIn Fence.wide 0 P l fn tmps assign body w (TP w S T post)
def ITri (P : Program) {α : Type} (gf : FuncId) (lb : List Value) (enc : α → List Value) (xs : List α) (φg : List Res) : Prop :=
 Enter P gf = true ∧ ∀ (l : Nat) (J Jx : List α → List Res → List Res → Prop) (φx : List Res),
  (∀ pre x μ φ, (pre ++ [x]) <+: xs → J pre μ φ → YTri P l (enc x) μ (φ ++ (φg ++ φx)) (fun v μ' φ' => (v = .bool true ∧ J (pre ++ [x]) μ' φ') ∨ (v = .bool false ∧ Jx (pre ++ [x]) μ' φ'))) →
  ∀ μ φ, J [] μ φ → Tri P gf (.func (.yield l) #[] #[] :: lb) μ (φ ++ (φg ++ φx)) (fun _ μ' φ' => J xs μ' φ' ∨ ∃ pre, pre <+: xs ∧ Jx pre μ' φ')
section
variable {E : Env} {Q : Qt} {σ : List (Nat × Value)} {μ φ : List Res}
theorem OKm.tp {w : World} (h : OKm E μ φ w) {μ' φ' μr : List Res} {v : Value} {post : Value → List Res → List Res → Prop} (hp : List.Perm μ (μ' ++ μr)) (hf : ∀ r, r ∈ φ' → r ∈ φ) (hpost : post v μ' φ') : TP E.w0 E.S0 E.T0 post (.returned v) w := by
 have hw := h.weak hp hf
 obtain ⟨S, T, h1, h2, h3, h4, h5, h6⟩ := hw.mem
 exact ⟨v, μ', φ', rfl, hpost, hw.keeps, S, T, h1, h2, h3, h4, h5, h6⟩
theorem OKm.lend {w : World} (hm : OKm E μ φ w) {μ1 μr φ1 : List Res} (hμ : List.Perm μ (μ1 ++ μr)) (hφ : ∀ r, r ∈ φ1 → r ∈ φ) :
  ∃ S1 T : Nat → Prop, Sep w μ1 S1 ∧ Fac w φ1 T ∧ (∀ k, S1 k → ¬ T k) ∧ (∀ k, T k → k < w.heap.size) ∧
   ∀ (w' : World) (μ' φ' : List Res), Keeps S1 w w' → (∃ S' T' : Nat → Prop, Sep w' μ' S' ∧ Fac w' φ' T' ∧ (∀ k, S' k → ¬ T' k) ∧ (∀ k, S' k → S1 k ∨ w.heap.size ≤ k) ∧ (∀ k, T' k → T k ∨ S1 k ∨ w.heap.size ≤ k) ∧ ∀ k, T' k → k < w'.heap.size) →
    OKm E (μ' ++ μr) (φ' ++ φ) w' := by
 obtain ⟨S, T, h1, h2, h3, h4, h5, h6⟩ := hm.mem
 obtain ⟨S1, S2, g1, g2, gd, gs⟩ := (h1.perm hμ).split
 refine ⟨S1, T, g1, fun r hr => h2 r (hφ r hr), fun k hk => h3 k ((gs k).2 (.inl hk)), h6, ?_⟩
 rintro w' μ' φ' hkeep ⟨S', T', k1, k2, k3, k4, k5, k6⟩
 have hS2lt : ∀ k, S2 k → k < w.heap.size := fun k hk => g2.lt hk
 have hfr : ∀ k, S2 k → w'.heap[k]? = w.heap[k]? := fun k hk => hkeep.block k (hS2lt k hk) (fun hh => gd k hh hk)
 have hd2 : ∀ k, S' k → ¬ S2 k := fun k hk hk2 => by
  rcases k4 k hk with h' | h'
  ·exact gd k h' hk2
  ·have := hS2lt k hk2; omega
 refine ⟨hm.keeps.trans hkeep (fun k hk => h4 k ((gs k).2 (.inl hk))), fun k => S' k ∨ S2 k, fun k => T' k ∨ T k, k1.app (g2.keep hfr) hd2, ?_, ?_, ?_, ?_, ?_⟩
 ·intro r hr
  rcases List.mem_append.1 hr with hr | hr
  ·obtain ⟨S3, a1, a2⟩ := k2 r hr
   exact ⟨S3, a1, fun k hk => .inl (a2 k hk)⟩
  ·obtain ⟨S3, a1, a2⟩ := h2 r hr
   exact ⟨S3, r.loc a1 (fun k hk => hkeep.block k (r.lt a1 hk) (fun hh => h3 k ((gs k).2 (.inl hh)) (a2 k hk))), fun k hk => .inr (a2 k hk)⟩
 ·rintro k (hS | hS) (hT | hT)
  ·exact k3 k hS hT
  ·rcases k4 k hS with h' | h'
   ·exact h3 k ((gs k).2 (.inl h')) hT
   ·have := h6 k hT; omega
  ·rcases k5 k hT with h' | h' | h'
   ·exact h3 k ((gs k).2 (.inr hS)) h'
   ·exact gd k h' hS
   ·have := hS2lt k hS; omega
  ·exact h3 k ((gs k).2 (.inr hS)) hT
 ·rintro k (hS | hS)
  ·rcases k4 k hS with h' | h'
   ·exact h4 k ((gs k).2 (.inl h'))
   ·exact .inr (by have := hm.keeps.size; omega)
  ·exact h4 k ((gs k).2 (.inr hS))
 ·rintro k (hT | hT)
  ·rcases k5 k hT with h' | h' | h'
   ·exact h5 k h'
   ·exact .inr (h4 k ((gs k).2 (.inl h')))
   ·exact .inr (.inr (by have := hm.keeps.size; omega))
  ·exact h5 k hT
 ·rintro k (hT | hT)
  ·exact k6 k hT
  ·exact Nat.lt_of_lt_of_le (h6 k hT) hkeep.size
theorem OKm.newObj {w : World} (h : OKm E μ φ w) (o : Obj) : OKm E (objR w.heap.size o :: μ) φ (w.alloc o) := by
 have h' := h.step (Keeps.alloc w o _)
 obtain ⟨S, T, h1, h2, h3, h4, h5, h6⟩ := h.mem
 have hk : ∀ k, k < w.heap.size → (w.alloc o).heap[k]? = w.heap[k]? := fun k hk => Below.heap_alloc w _ k hk
 refine ⟨h'.keeps, fun k => k = w.heap.size ∨ S k, T, ⟨fun k => k = w.heap.size, S, ⟨heap_alloc_new w _, fun _ => Iff.rfl⟩, h1.keep (fun k hS => hk k (h1.lt hS)), fun k e hS => ?_, fun _ => Iff.rfl⟩, fun r hr => ?_, fun k hS hT => ?_, fun k hS => ?_, h5, fun k hT => by have := h6 k hT; simp; omega⟩
 ·have := h1.lt hS; omega
 ·obtain ⟨S', a, b⟩ := h2 r hr
  exact ⟨S', r.loc a (fun k hS => hk k (r.lt a hS)), b⟩
 ·rcases hS with e | hS
  ·have := h6 k hT; omega
  ·exact h3 k hS hT
 ·rcases hS with e | hS
  ·exact .inr (by have := h.keeps.size; omega)
  ·exact h4 k hS
theorem OKm.objAt {w : World} {b : Nat} {o : Obj} (h : OKm E (objR b o :: μ) φ w) : w.heap[b]? = some o := by
 obtain ⟨S, T, ⟨S1, S2, h1, _⟩, _⟩ := h.mem
 exact h1.1
theorem OKm.putObj {w : World} {b : Nat} {o : Obj} (h : OKm E (objR b o :: μ) φ w) (o' : Obj) : OKm E (objR b o' :: μ) φ (w.putObj b o') := by
 obtain ⟨S, T, ⟨S1, S2, ⟨k1, k2⟩, k3, k4, k5⟩, g2, g3, g4, g5, g6⟩ := h.mem
 have hSb : S b := (k5 b).2 (.inl ((k2 b).2 rfl))
 have hlt : b < w.heap.size := (Array.getElem?_eq_some_iff.1 k1).1
 have ho : ∀ k, k ≠ b → (w.putObj b o').heap[k]? = w.heap[k]? := fun k hk => World.putObj_heap_other hk
 refine ⟨⟨h.keeps.os, h.keeps.tape, h.keeps.output, by simpa using h.keeps.size, fun k hk hn => ?_⟩, S, T, ⟨S1, S2, ⟨World.putObj_heap_same hlt, k2⟩, k3.keep (fun k hS => ho k (fun e => ?_)), k4, k5⟩, ?_, g3, g4, g5, fun k hT => by simpa using g6 k hT⟩
 ·have hkb : k ≠ b := by
   rintro rfl
   rcases g4 k hSb with h' | h'
   ·exact hn h'
   ·omega
  exact (ho k hkb).trans (h.keeps.block k hk hn)
 ·subst e
  exact k4 k ((k2 k).2 rfl) hS
 ·intro r hr
  obtain ⟨S', a, b'⟩ := g2 r hr
  refine ⟨S', r.loc a (fun k hS => ho k (fun e => ?_)), b'⟩
  subst e
  exact g3 k hSb (b' k hS)
def LY (E : Env) (Q : Qt) (ops : Array Oper) (l : List Oper) (σ : List (Nat × Value)) (μ φ : List Res) : Prop := ∀ a w, OKa E σ a → OKm E μ φ w → wpListIn Fence.wide 0 E.P ops Q l a w
variable {ops : Array Oper} {rest : List Oper} {d : Tmp} {op : Op} {ty : TypeId} {pos : String} {af : Array Edge} {g : Option (Nat × Bool)}
theorem LY_nil (h : QJ E Q .normal σ μ φ) : LY E Q ops [] σ μ φ := fun a w ha hm => h a w ha hm
theorem LY_y {v : Value} (hg : grd ops σ g = some true) (hd : Nat.blt d E.N = true)
  (hy : YJ E op ty σ μ φ v) (h : LY E Q ops rest ((d, v) :: σ) μ φ) : LY E Q ops (⟨some d, op, ty, pos, af, g⟩ :: rest) σ μ φ := fun a w ha hm => by
 unfold wpListIn
 rw [if_pos (grd_wanted (o := ⟨some d, op, ty, pos, af, g⟩) ha hg)]
 refine ⟨fun _ _ => trivial, ?_⟩
 rw [show Fence.wide.round = none from rfl, Oper.semAt_none, hy a w (some d) pos af g ha.slots hm.hold.1 hm.hold.2]
 exact h _ _ (ha.put hd v) hm
theorem LY_skip (hg : grd ops σ g = some false) (hd : Nat.blt d E.N = true)
  (h : LY E Q ops rest ((d, undef) :: σ) μ φ) : LY E Q ops (⟨some d, op, ty, pos, af, g⟩ :: rest) σ μ φ := fun a w ha hm => by
 unfold wpListIn
 rw [if_neg (by rw [grd_wanted (o := ⟨some d, op, ty, pos, af, g⟩) ha hg]; simp)]
 exact ⟨fun _ _ => trivial, h _ _ (ha.put hd undef) hm⟩
theorem LY_yield {x : Operand} {xs : Array Operand} {at_ : Array TypeId} {l : Nat} {vs : List Value} {μ1 μr φ1 : List Res} {post : Value → List Res → List Res → Prop} (hg : grd ops σ g = some true) (hd : Nat.blt d E.N = true)
  (hx : oev σ x = some (.func (.yield l) #[] #[])) (hxs : oevs σ xs.toList = some vs)
  (ht : YTri E.P l vs μ1 φ1 post) (hμ : List.Perm μ (μ1 ++ μr)) (hφ : ∀ r, r ∈ φ1 → r ∈ φ)
  (h : ∀ v μ' φ', post v μ' φ' → LY E Q ops rest ((d, v) :: σ) (μ' ++ μr) (φ' ++ φ)) : LY E Q ops (⟨some d, .call { callee := .value x, args := xs, argTypes := at_ }, ty, pos, af, g⟩ :: rest) σ μ φ := fun a w ha hm => by
 unfold wpListIn
 rw [if_pos (grd_wanted (o := ⟨some d, .call { callee := .value x, args := xs, argTypes := at_ }, ty, pos, af, g⟩) ha hg)]
 refine ⟨fun _ _ => trivial, ?_⟩
 rw [show Fence.wide.round = none from rfl, Oper.semAt_none]
 obtain ⟨S1, T, h1, h2, h3, h4, h5⟩ := hm.lend hμ hφ
 obtain ⟨fn, tmps, assign, body, hy, hR⟩ := ht w S1 T h1 h2 h3 h4
 have hargs : (xs.map a.eval) = vs.toArray := by
  have := ha.slots.evs hxs
  apply Array.toList_inj.1
  simp [this]
 have hrun : (execOp a.eval ⟨some d, .call { callee := .value x, args := xs, argTypes := at_ }, ty, pos, af, g⟩).run E.P w = .ok (.round l fn tmps assign body) w := by
  simp only [execOp, resolve, ha.slots.ev hx, Deferred.ofValue, Sem.run_bind, Sem.run_pure, Result.andThen_ok, invoke]
  have e : (#[] ++ Array.map a.eval xs) = vs.toArray := by rw [← hargs]; simp
  rw [e]
  exact hy
 rw [hrun, Oper.uponIn_round]
 refine ⟨fun hh => (by simp [Fence.wide] at hh), hR.mono ?_⟩
 rintro e w' ⟨v, μ', φ', rfl, hpost, hkeep, hrest⟩
 exact h v μ' φ' hpost _ _ (ha.put hd v) (h5 w' μ' φ' hkeep hrest)
theorem LY_boolC {b : Bool} (ht : b = true → LY E Q ops rest ((d, .bool true) :: σ) μ φ) (hf : b = false → LY E Q ops rest ((d, .bool false) :: σ) μ φ) : LY E Q ops rest ((d, .bool b) :: σ) μ φ := by
 cases b
 ·exact hf rfl
 ·exact ht rfl
theorem LY_val {u v : Value} (hb : u = v) (h : LY E Q ops rest ((d, v) :: σ) μ φ) : LY E Q ops rest ((d, u) :: σ) μ φ := by subst hb; exact h
theorem in_wide {P : Program} {o : Oper} {a : Act} {w : World} {K : Act → World → Prop} {Q : Exit → Act → World → Prop} (h : Oper.wp P o a w K Q) : Oper.wpIn Fence.wide 0 P o a w K Q := by
 refine ⟨fun _ _ => trivial, ?_⟩
 rw [show Fence.wide.round = none from rfl, Oper.semAt_none]
 unfold Oper.wp at h
 generalize (execOp a.eval o).run P w = r at *
 cases r with
 | ok nx w' =>
  cases nx with
  | value v => exact h
  | skip => exact h
  | defer d => exact h
  | enter f args => exact ⟨fun hh => (by simp [Fence.wide] at hh), callsIn_wide.2 h⟩
  | row r args => exact ⟨fun hh => (by simp [Fence.wide] at hh), fun c cs _ => let ⟨v, w', r, s⟩ := h c cs; ⟨v, w', r, stepsIn_wide.2 s⟩⟩
  | _ => exact h.elim
 | halt x w' => cases x <;> first | exact h | exact h.elim
theorem LY_o {X : Value → List Res → List Res → Prop} (hg : grd ops σ g = some true) (hd : Nat.blt d E.N = true)
  (ho : OJ E op ty σ μ φ X) (h : ∀ v μ' φ', X v μ' φ' → LY E Q ops rest ((d, v) :: σ) μ' φ') : LY E Q ops (⟨some d, op, ty, pos, af, g⟩ :: rest) σ μ φ := fun a w ha hm => by
 unfold wpListIn
 rw [if_pos (grd_wanted (o := ⟨some d, op, ty, pos, af, g⟩) ha hg)]
 exact in_wide (ho a w _ _ _ _ _ _ ha.slots hm fun v μ' φ' w' hx hm' => h v μ' φ' hx _ _ (ha.put hd v) hm')
theorem LY_call0 {x : Operand} {xs : Array Operand} {at_ : Array TypeId} {f : FuncId} {cap : Array Value} {vs vs' : List Value} {φ1 : List Res} {v0 : Value} (hg : grd ops σ g = some true) (hd : Nat.blt d E.N = true)
  (hx : oev σ x = some (.func (.func f) #[] cap)) (hxs : oevs σ xs.toList = some vs) (hv : vs ++ cap.toList = vs') (ht : Tri E.P f vs' [] φ1 (Ret0 v0)) (hφ : ∀ r, r ∈ φ1 → r ∈ φ)
  (h : LY E Q ops rest ((d, v0) :: σ) μ φ) : LY E Q ops (⟨some d, .call { callee := .value x, args := xs, argTypes := at_ }, ty, pos, af, g⟩ :: rest) σ μ φ := by
 subst hv
 exact LY_o hg hd (OJ_call (μr := μ) hx hxs ht (List.Perm.refl _) hφ) (by rintro _ _ _ ⟨_, _, ⟨rfl, rfl, rfl⟩, rfl, rfl⟩; exact h)
theorem YJ_makeFunc {f : Fn} {fs cs : Array Operand} {vs us : List Value} (hf : oevs σ fs.toList = some vs) (hc : oevs σ cs.toList = some us) : YJ E (.makeFunc f fs cs) ty σ μ φ (.func f vs.toArray us.toArray) := fun a w d pos af g hs _ _ => by
 have h1 : fs.map a.eval = vs.toArray := by
  have := hs.evs hf
  apply Array.toList_inj.1
  simp [this]
 have h2 : cs.map a.eval = us.toArray := by
  have := hs.evs hc
  apply Array.toList_inj.1
  simp [this]
 simp only [execOp]
 rw [h1, h2]
 simp [Instr.makeFunc]
theorem CJ_regY {id : Nat} {l : List Oper} (h : LY E Q l.toArray l σ μ φ) : CJ E Q (.region id l.toArray false) σ μ φ := fun a w ha hm => (wpIn_wide (n := 0)).1 (wpIn_region_lit (h a w ha hm))
def putS : List (Nat × Value) → List (Nat × Value) → List (Nat × Value)
 | [], σ => σ
 | (p, v) :: r, σ => putS r ((p, v) :: σ)
theorem putS_ok : ∀ (l : List (Nat × Value)) {σ : List (Nat × Value)} {a : Act}, OKa E σ a → l.all (fun p => Nat.blt p.1 E.N) = true →
  OKa E (putS l σ) { a with tmps := l.foldl (fun t (p, v) => t.setIfInBounds p v) a.tmps }
 | [], _, _, h, _ => h
 | (p, v) :: r, σ, a, h, hb => by
  rw [List.all_cons, Bool.and_eq_true] at hb
  exact putS_ok r (h.put hb.1 v) hb.2
def recL (fn : FuncId) (tmps : Array Value) (ps : Array Tmp) (assign body : Code) (D : Nat) (st : LoopState) (jump : Option Code) : Obj :=
 .loop { state := st, pending := jump, fn, tmps, params := ps, assign, body, defers := D }
theorem no_round {P : Program} {l : Nat} {R : Ending → World → Prop} : ¬ LetsOut (roundPost P l R) := fun ⟨_, _, h⟩ => h
theorem no_begin {K : Act → World → Prop} : ¬ LetsOut (Exit.then K fun _ _ _ => False) := fun ⟨_, _, h⟩ => h
abbrev RPost (E : Env) (l : Nat) (post : Value → List Res → List Res → Prop) : Qt := roundPost E.P l (TP E.w0 E.S0 E.T0 post)
abbrev Begun (E : Env) (l : Nat) (body : Code) (post : Value → List Res → List Res → Prop) : Qt :=
 Exit.then (fun a₁ w₁ => ∃ w₂, (Instr.beginRound l).run E.P w₁ = .ok () w₂ ∧ body.wpIn (Fence.wide.inRound l) 0 E.P (RPost E l post) a₁ w₂) (fun _ _ _ => False)
theorem QJ_begin {l : Nat} {body : Code} {post : Value → List Res → List Res → Prop} {fn : FuncId} {tmps : Array Value} {ps : Array Tmp} {asg bd : Code} {D : Nat} {μr : List Res}
  (hp : List.Perm μ (objR l (recL fn tmps ps asg bd D .ready none) :: μr)) (h : RJ l 0 E (RPost E l post) body σ (objR l (recL fn tmps ps asg bd D .busy none) :: μr) φ) : QJ E (Begun E l body post) .normal σ μ φ := fun a w ha hm => by
 have hm' : OKm E (objR l (recL fn tmps ps asg bd D .ready none) :: μr) φ w := hm.weak (μr := []) (by simpa using hp) (fun _ h => h)
 exact ⟨_, run_beginRound hm'.objAt rfl, h no_round a _ ha (hm'.putObj _)⟩
theorem QJ_again {l : Nat} {post : Value → List Res → List Res → Prop} {fn : FuncId} {tmps : Array Value} {ps : Array Tmp} {asg bd : Code} {D : Nat} {μ1 μ2 φ1 : List Res}
  (hp : List.Perm μ (objR l (recL fn tmps ps asg bd D .busy none) :: (μ1 ++ μ2))) (hf : ∀ r, r ∈ φ1 → r ∈ φ) (h : post (.bool true) (objR l (recL fn tmps ps asg bd D .ready none) :: μ1) φ1) : QJ E (RPost E l post) .normal σ μ φ := fun a w ha hm => by
 have hm' : OKm E (objR l (recL fn tmps ps asg bd D .busy none) :: (μ1 ++ μ2)) φ w := hm.weak (μr := []) (by simpa using hp) (fun _ h => h)
 exact ⟨_, _, run_endRound none hm'.objAt, (hm'.putObj _).tp (μr := μ2) (by simp [recL]) hf h⟩
def jumpOf : Exit → Option Code
 | .ret => some .ret
 | .exit id => some (.exit id)
 | _ => none
theorem QJ_leave {l : Nat} {post : Value → List Res → List Res → Prop} {fn : FuncId} {tmps : Array Value} {ps : Array Tmp} {asg bd : Code} {D : Nat} {μ1 μ2 φ1 : List Res} {e : Exit} {j : Code} (he : jumpOf e = some j)
  (hp : List.Perm μ (objR l (recL fn tmps ps asg bd D .busy none) :: (μ1 ++ μ2))) (hf : ∀ r, r ∈ φ1 → r ∈ φ) (h : post (.bool false) (objR l (recL fn tmps ps asg bd D .done (some j)) :: μ1) φ1) : QJ E (RPost E l post) e σ μ φ := fun a w ha hm => by
 have hm' : OKm E (objR l (recL fn tmps ps asg bd D .busy none) :: (μ1 ++ μ2)) φ w := hm.weak (μr := []) (by simpa using hp) (fun _ h => h)
 have key : ∃ v w', (Instr.endRound l (some j)).run E.P w = .ok v w' ∧ TP E.w0 E.S0 E.T0 post (.returned v) w' :=
  ⟨_, _, run_endRound (some j) hm'.objAt, (hm'.putObj _).tp (μr := μ2) (by simp [recL]) hf h⟩
 cases e <;> simp [jumpOf] at he <;> subst he <;> exact key
structure LpS (α : Type) where
 ι : Type
 I : List α → ι → Prop
 F : List α → ι → List Res × List Res
 κ : Type
 Ix : Code → List α → κ → Prop
 Fx : Code → κ → List Res × List Res
def LpS.post {α : Type} (L : LpS α) (l D : Nat) (fn : FuncId) (tmps : Array Value) (ps : Array Tmp) (asg bd : Code) (pre : List α) : Value → List Res → List Res → Prop := fun v μ' φ' =>
 (v = .bool true ∧ ∃ i, L.I pre i ∧ μ' = objR l (recL fn tmps ps asg bd D .ready none) :: defR D :: (L.F pre i).1 ∧ φ' = (L.F pre i).2) ∨
 (v = .bool false ∧ ∃ c i, L.Ix c pre i ∧ μ' = objR l (recL fn tmps ps asg bd D .done (some c)) :: defR D :: (L.Fx c i).1 ∧ φ' = (L.Fx c i).2)
theorem CJ_rangeFunc {α : Type} {x : Operand} {ps : Array Tmp} {assign body : Code} {gf : FuncId} {lb : Array Value} {enc : α → List Value} {xs : List α} {φg : List Res}
  (hx : oev σ x = some (.func (.func gf) #[] lb)) (hit : ITri E.P gf lb.toList enc xs φg) (hφg : ∀ r, r ∈ φg → r ∈ φ)
  (hN : ∀ x, (enc x).length = ps.size) (hps : ps.toList.all (fun p => Nat.blt p E.N) = true) (L : LpS α) (i0 : L.ι) (h0 : L.I [] i0) {μr : List Res} (hp : List.Perm μ ((L.F [] i0).1 ++ μr)) (hf : ∀ r, r ∈ (L.F [] i0).2 → r ∈ φ)
  (hround : ∀ (l D : Nat) (fn : FuncId) (tmps : Array Value) (W : World) (S T : Nat → Prop) (pre : List α) (x : α) (i : L.ι), (pre ++ [x]) <+: xs → L.I pre i →
   RJ l 0 ⟨E.P, W, S, T, E.N, []⟩ (Begun ⟨E.P, W, S, T, E.N, []⟩ l body (L.post l D fn tmps ps assign body (pre ++ [x]))) assign (putS (ps.toList.zip (enc x)) σ) (objR l (recL fn tmps ps assign body D .ready none) :: defR D :: (L.F pre i).1) ((L.F pre i).2 ++ φ))
  (hdone : ∀ (D : Nat) (i : L.ι), L.I xs i → QJ { E with ds := markD D :: E.ds } Q .normal σ (defR D :: ((L.F xs i).1 ++ μr)) ((L.F xs i).2 ++ φ))
  (hstop : ∀ (D : Nat) (c : Code) (pre : List α) (i : L.κ), pre <+: xs → L.Ix c pre i → CJ { E with ds := markD D :: E.ds } Q c σ (defR D :: ((L.Fx c i).1 ++ μr)) ((L.Fx c i).2 ++ φ)) :
  CJ E Q (.rangeFunc x ps assign body) σ μ φ := fun a w ha hm => (wpIn_wide (n := 0)).1 <| wpIn_rangeFunc <| by
 intro fn _
 have hent := hit.1
 obtain ⟨D, hD⟩ : ∃ D, w.heap.size = D := ⟨_, rfl⟩
 have hm1 := (hm.newObj (.deferred (some []))).newObj (recL fn a.tmps ps assign body w.heap.size .ready none)
 obtain ⟨W1, hW1⟩ : ∃ W1, (w.alloc (.deferred (some []))).alloc (recL fn a.tmps ps assign body w.heap.size .ready none) = W1 := ⟨_, rfl⟩
 rw [hW1, World.size_alloc, hD] at hm1
 refine ⟨D + 1, [markD D], W1, { target := .fn (.func gf) lb, args := #[.func (.yield (D + 1)) #[] #[]] }, W1, gf, #[.func (.yield (D + 1)) #[] #[]] ++ lb, W1, ?_, ?_, fun _ _ => trivial, ?_, fun hh => (by simp [Fence.wide] at hh), ?_⟩
 ·rw [← hW1, ← hD]
  exact run_enterLoop_outer fn a.tmps ps assign body
 ·simp only [resolve, ha.slots.ev hx]
  simp [go_sem]
 ·simp [invoke, go_sem, run_enter hent]
 ·rw [callsIn_wide]
  obtain ⟨S1, T, h1, h2, h3, h4, h5⟩ := hm1.lend (μ1 := objR (D + 1) (recL fn a.tmps ps assign body D .ready none) :: defR D :: (L.F [] i0).1) (μr := μr) (φ1 := (L.F [] i0).2 ++ (φg ++ φ))
   ((hp.cons _).cons _) (fun r hr => by
    rcases List.mem_append.1 hr with hr | hr
    ·exact hf r hr
    ·rcases List.mem_append.1 hr with hr | hr
     ·exact hφg r hr
     ·exact hr)
  have hT := hit.2 (D + 1) (fun pre μ φ' => ∃ i, L.I pre i ∧ μ = objR (D + 1) (recL fn a.tmps ps assign body D .ready none) :: defR D :: (L.F pre i).1 ∧ φ' = (L.F pre i).2)
   (fun pre μ φ' => ∃ c i, L.Ix c pre i ∧ μ = objR (D + 1) (recL fn a.tmps ps assign body D .done (some c)) :: defR D :: (L.Fx c i).1 ∧ φ' = (L.Fx c i).2) φ ?_ _ _ ⟨i0, h0, rfl, rfl⟩
  ·have ha1 : (#[Value.func (.yield (D + 1)) #[] #[]] ++ lb) = (Value.func (.yield (D + 1)) #[] #[] :: lb.toList).toArray := by
    apply Array.toList_inj.1; simp
   rw [ha1]
   refine (hT.2 W1 S1 T h1 h2 h3 h4).mono ?_
   rintro e w' ⟨v, μ', φ', rfl, hpost, hkeep, hrest⟩
   have hm2 := h5 w' μ' φ' hkeep hrest
   have hOKa : OKa { E with ds := markD D :: E.ds } σ { a with defers := [markD D] ++ a.defers } := ⟨by rw [ha.defs]; rfl, ha.siz, ha.slots⟩
   rcases hpost with ⟨i, hI, rfl, rfl⟩ | ⟨pre, hpre, c, i, hI, rfl, rfl⟩
   ·have hm3 : OKm E (objR (D + 1) (recL fn a.tmps ps assign body D .ready none) :: (defR D :: (L.F xs i).1 ++ μr)) ((L.F xs i).2 ++ φ) w' := hm2
    refine ⟨none, _, run_endLoop hm3.objAt (by simp), ?_⟩
    have hm4 := (hm3.putObj (.loop { state := .exhausted, pending := none, fn := fn, tmps := a.tmps, params := ps, assign := assign, body := body, defers := D })).weak (μ' := defR D :: ((L.F xs i).1 ++ μr)) (μr := [objR (D + 1) (.loop { state := .exhausted, pending := none, fn := fn, tmps := a.tmps, params := ps, assign := assign, body := body, defers := D })]) (List.perm_append_singleton _ _).symm (fun r h => h)
    exact hdone D i hI _ _ hOKa ⟨hm4.keeps, hm4.mem⟩
   ·have hm3 : OKm E (objR (D + 1) (recL fn a.tmps ps assign body D .done (some c)) :: (defR D :: (L.Fx c i).1 ++ μr)) ((L.Fx c i).2 ++ φ) w' := hm2
    refine ⟨some c, _, run_endLoop hm3.objAt (by simp), ?_⟩
    have hm4 := (hm3.putObj (.loop { state := .exhausted, pending := some c, fn := fn, tmps := a.tmps, params := ps, assign := assign, body := body, defers := D })).weak (μ' := defR D :: ((L.Fx c i).1 ++ μr)) (μr := [objR (D + 1) (.loop { state := .exhausted, pending := some c, fn := fn, tmps := a.tmps, params := ps, assign := assign, body := body, defers := D })]) (List.perm_append_singleton _ _).symm (fun r h => h)
    exact (wpIn_wide (n := 0)).2 (hstop D c pre i hpre hI _ _ hOKa ⟨hm4.keeps, hm4.mem⟩)
  ·rintro pre x μ' φ' hpre ⟨i, hI, rfl, rfl⟩ w2 S T hS hT hd hlt
   obtain ⟨S1, S2, k1, _⟩ := hS
   have hy := run_yield (P := E.P) (args := (enc x).toArray) k1.1 (by simpa using hN x)
   refine ⟨_, _, _, _, hy, roundIn_of_wpIn trivial ?_⟩
   refine hround (D + 1) D fn a.tmps w2 S T pre x i hpre hI no_begin _ w2 ?_ ⟨Keeps.refl _ _, S, T, ⟨S1, S2, k1, by assumption⟩, ?_, hd, fun k h => .inl h, fun k h => .inl h, hlt⟩
   ·have e : ((ps.zip (enc x).toArray).foldl (fun tmps (p : Tmp × Value) => tmps.setIfInBounds p.1 p.2) a.tmps) = (ps.toList.zip (enc x)).foldl (fun t (p : Tmp × Value) => t.setIfInBounds p.1 p.2) a.tmps := by
     rw [← Array.foldl_toList, Array.toList_zip]
    show OKa _ _ { tmps := (ps.zip (enc x).toArray).foldl (fun tmps (p : Tmp × Value) => tmps.setIfInBounds p.1 p.2) a.tmps, defers := [] }
    rw [e]
    refine putS_ok (E := ⟨E.P, w2, S, T, E.N, []⟩) (ps.toList.zip (enc x)) (a := { tmps := a.tmps, defers := [] }) ⟨rfl, ha.siz, ha.slots⟩ ?_
    rw [List.all_eq_true]
    rintro ⟨p, v⟩ hpv
    exact List.all_eq_true.1 hps p (List.of_mem_zip hpv).1
   ·intro r hr
    rcases List.mem_append.1 hr with hr | hr
    ·exact hT r (List.mem_append_left _ hr)
    ·exact hT r (List.mem_append_right _ (List.mem_append_right _ hr))
def FinM (P : Program) (fn : Func) (w0 : World) (S0 T0 : Nat → Prop) (post : Value → List Res → List Res → Prop) : Qt
 | .normal, a, w | .ret, a, w => LeavesInM Fence.wide 0 P fn a.tmps (TP w0 S0 T0 post) a.defers .returning w
 | _, _, _ => False
theorem FinM.post {P : Program} {fn : Func} {w0 : World} {S0 T0 : Nat → Prop} {post : Value → List Res → List Res → Prop} : ∀ e a w, FinM P fn w0 S0 T0 post e a w → bodyPostM Fence.wide 0 P fn (TP w0 S0 T0 post) e a w := fun e a w h => by
 cases e <;> first | exact h | exact h.elim
theorem Tri_ofM {P : Program} {f : FuncId} {fn : Func} {c : Code} {args : List Value} {μ φ : List Res} {post : Value → List Res → List Res → Prop} (hf : P.funcs[f]? = some fn) (hb : fn.body = some c) (hE : Enter P f = true)
  {N : Nat} (hN : fn.ntmps = N) (hl : Nat.ble args.length N = true)
  (h : ∀ (w0 : World) (S0 T0 : Nat → Prop), CJ ⟨P, w0, S0, T0, N, []⟩ (FinM P fn w0 S0 T0 post) c (initS 0 args) μ φ) : Tri P f args μ φ post := by
 refine ⟨hE, fun w S T hS hT hd hlt => ?_⟩
 refine (callsIn_wide (n := 0)).1 (callsIn_of_wp_marks hf hb trivial (wpIn_mono ((wpIn_wide (n := 0)).2 ?_) FinM.post))
 have hl' : args.length ≤ fn.ntmps := by rw [hN]; exact Nat.le_of_ble_eq_true hl
 refine h w S T _ w ⟨rfl, ?_, ?_⟩ ⟨Keeps.refl _ _, S, T, hS, hT, hd, fun k hk => .inl hk, fun k hk => .inl hk, hlt⟩
 ·simp; omega
 ·intro t v hv
  obtain ⟨j, rfl, hj⟩ := initS_lk args 0 t v hv
  have hjl : j < args.length := by
   rcases Nat.lt_or_ge j args.length with h' | h'
   ·exact h'
   ·rw [List.getElem?_eq_none h'] at hj; cases hj
  simp only [Nat.zero_add]
  rw [Array.getElem?_append_left (by simpa using hjl)]
  simpa using hj
theorem leavesM {fn : Func} {tmps : Array Value} {v : Value} {post : Value → List Res → List Res → Prop} {μ' φ' μr : List Res} (hf : ∀ r, r ∈ φ' → r ∈ φ) (hpost : post v μ' φ')
  (hr : ∀ w, Hold w (μ' ++ μr) → Hold w φ → (results fn tmps).run E.P w = .ok v w) : ∀ (Ds : List Nat) (w : World), OKm E (Ds.map (fun D => defR D) ++ (μ' ++ μr)) φ w →
  LeavesInM Fence.wide 0 E.P fn tmps (TP E.w0 E.S0 E.T0 post) (Ds.map markD) .returning w
 | [], w, hm => ⟨v, hr w hm.hold.1 hm.hold.2, OKm.tp (μ' := μ') (μr := μr) hm (List.Perm.refl _) hf hpost⟩
 | D :: Ds, w, hm => by
  refine ⟨by simp, .inl ⟨D, _, rfl, run_takeDeferred hm.objAt, leavesM hf hpost hr Ds _ ?_⟩⟩
  have := hm.putObj (.deferred none)
  exact this.weak (μr := [objR D (.deferred none)]) (List.perm_append_singleton _ _).symm (fun r h => h)
theorem QJ_finM {fn : Func} {post : Value → List Res → List Res → Prop} {e : Exit} (he : e = .ret ∨ e = .normal) (Ds : List Nat) (hds : E.ds = Ds.map markD) {v : Value} {μ' φ' μr : List Res} (hr : ∀ a w, Slots σ a → Hold w (μ' ++ μr) → Hold w φ → (results fn a.tmps).run E.P w = .ok v w) (hp : List.Perm μ (Ds.map (fun D => defR D) ++ (μ' ++ μr))) (hf : ∀ r, r ∈ φ' → r ∈ φ)
  (hpost : post v μ' φ') : QJ E (FinM E.P fn E.w0 E.S0 E.T0 post) e σ μ φ := fun a w ha hm => by
 have hm' : OKm E (Ds.map (fun D => defR D) ++ (μ' ++ μr)) φ w := hm.weak (μr := []) (by simpa using hp) (fun _ h => h)
 have := leavesM (fn := fn) (tmps := a.tmps) hf hpost (fun w h1 h2 => hr a w ha.slots h1 h2) Ds w hm'
 have hd : a.defers = Ds.map markD := ha.defs.trans hds
 rcases he with rfl | rfl
 ·show LeavesInM _ _ _ _ _ _ a.defers _ _
  rw [hd]; exact this
 ·show LeavesInM _ _ _ _ _ _ a.defers _ _
  rw [hd]; exact this
end
section
variable {E : Env} {Q : Qt} {σ : List (Nat × Value)} {μ φ : List Res} {ops : Array Oper} {l n : Nat}
theorem RJ_regDA {id : Nat} (hmix : E.P.follows .mixedOrders = true) (hs : Region.noSelect ops = true) (hQ : ∀ c a w d v, Q (.panic c) (a.put (some d) v) w → Q (.panic c) a w) (ml pl : List Res) (hml : ∀ r, r ∈ ml → r ∈ μ) (hpl : ∀ r, r ∈ pl → r ∈ φ) (hd : ops.toList.all noDefer = true)
  (A : List Al) (m : Nat) (hn : ops.size = m + A.length) (hok : AlOk E.P ops A) (hnd : nodupB (dsts A) = true) (hsz : A.all (fun x => Nat.blt x.d E.N) = true) (h : AA E Q ops ml pl A m (Array.replicate ops.size false) σ μ φ) : RJ l n E Q (.region id ops true) σ μ φ := fun hq a w ha hm => by
 refine wpIn_region_any hmix (anyIn_of hq hd _ _ _ _ (wpAny_of_held (S := fun w => Hold w ml ∧ Hold w pl) _ _ _ _ ?_))
 have hp : ∀ (A : List Al), pend (A.map fun _ => none) = A.length := by
  intro A; induction A with
  | nil => rfl
  | cons x A ih => simp [pend, ih]
 have hb : ∀ (A : List Al) (L : Array Bool), lsB A (bts (A.map fun _ => none)) L = L := by
  intro A; induction A with
  | nil => intro L; rfl
  | cons x A ih => intro L; exact ih L
 have hs0 : ∀ (A : List Al), σA A (A.map fun _ => none) = [] := by
  intro A; induction A with
  | nil => rfl
  | cons x A ih => exact ih
 have hm0 : ∀ (A : List Al), μA A (A.map fun _ => none) = [] := by
  intro A; induction A with
  | nil => rfl
  | cons x A ih => exact ih
 have := h hok hnd hsz hs hQ hml hpl (A.map fun _ => none) (by simp) a w.drew ha (by rw [hs0]; intro t v hv; cases hv) (by rw [hm0]; exact hm.drew)
 rw [hp, hb, ← hn] at this
 exact this
def pickR {α : Type} : List Nat → List α → List α
 | [], l => l
 | i :: is, l => match l[i]? with
  | some x => x :: pickR is (l.eraseIdx i)
  | none => l
theorem perm_erase {α : Type} : ∀ (l : List α) (i : Nat) (x : α), l[i]? = some x → l.Perm (x :: l.eraseIdx i)
 | [], _, _, h => by simp at h
 | y :: l, 0, x, h => by
  simp at h
  subst h
  exact List.Perm.refl _
 | y :: l, i + 1, x, h => by
  have := perm_erase l i x (by simpa using h)
  exact (this.cons y).trans (List.Perm.swap x y _)
theorem permR {α : Type} : ∀ (is : List Nat) (l : List α), l.Perm (pickR is l)
 | [], l => List.Perm.refl _
 | i :: is, l => by
  unfold pickR
  cases h : l[i]? with
  | none => exact List.Perm.refl _
  | some x =>
   exact (perm_erase l i x h).trans ((permR is _).cons _)
theorem permI {α : Type} {l l' : List α} (is : List Nat) (h : pickR is l = l') : l.Perm l' := h ▸ permR is l
def exR {ι : Type} (f : ι → List Res) : Res where
 p w S := ∃ i, Sep w (f i) S
 loc := fun {w w' S} ⟨i, h⟩ hk => ⟨i, h.keep hk⟩
 lt := fun {w S k} ⟨i, h⟩ hk => h.lt hk
theorem OKm.openEx {ι : Type} {f : ι → List Res} {w : World} (h : OKm E (exR f :: μ) φ w) : ∃ i, OKm E (f i ++ μ) φ w := by
 obtain ⟨S, T, ⟨S1, S2, ⟨i, h1⟩, h2, h3, h4⟩, r⟩ := h.mem
 have e : S = fun k => S1 k ∨ S2 k := funext fun k => propext (h4 k)
 refine ⟨i, h.keeps, S, T, ?_, r⟩
 rw [e]
 exact h1.app h2 h3
theorem OKm.closeEx {ι : Type} {f : ι → List Res} {i : ι} {w : World} (h : OKm E (f i ++ μ) φ w) : OKm E (exR f :: μ) φ w := by
 obtain ⟨S, T, h1, r⟩ := h.mem
 obtain ⟨S1, S2, g1, g2, gd, gs⟩ := h1.split
 exact ⟨h.keeps, S, T, ⟨S1, S2, ⟨i, g1⟩, g2, gd, gs⟩, r⟩
variable {Q : Qt} {rest : List Oper} {c : Code} {e : Exit} {ι : Type} {f : ι → List Res}
theorem CJ_open (h : ∀ i, CJ E Q c σ (f i ++ μ) φ) : CJ E Q c σ (exR f :: μ) φ := fun a w ha hm => let ⟨i, h'⟩ := hm.openEx; h i a w ha h'
end
end Go.Proofs.Ytbanlhlggkdanaa
namespace Go.Proofs.Ytbanlhlggkdanaa
open Go.RowKit
def rowR (e : TypeId) (size : Nat) (A : Option Addr) (n c : Nat) (xs : List Value) : Res where
 p w S := xs.length = n * size ∧ ((A = none ∧ n = 0 ∧ c = 0 ∧ ∀ k, ¬ S k) ∨
  ∃ g cur, A = some ⟨g, 0, none⟩ ∧ (∀ k, S k ↔ k = g) ∧ w.heap[g]? = some (.cells cur e (0, 0)) ∧ n ≤ c ∧ c ≤ maxLen ∧ cur.size = c * size ∧ cur.toList.take (n * size) = xs)
 loc := fun {w w' S} ⟨h, hs⟩ hk => ⟨h, by
  rcases hs with h' | ⟨g, cur, e1, e2, e3, r⟩
  ·exact .inl h'
  ·exact .inr ⟨g, cur, e1, e2, (hk g ((e2 g).2 rfl)).trans e3, r⟩⟩
 lt := fun {w S k} ⟨h, hs⟩ hk => by
  rcases hs with ⟨_, _, _, h'⟩ | ⟨g, cur, e1, e2, e3, r⟩
  ·exact absurd hk (h' k)
  ·obtain rfl := (e2 k).1 hk
   exact (Array.getElem?_eq_some_iff.1 e3).1
theorem rowR.cell {e : TypeId} {size n c : Nat} {A : Option Addr} {xs : List Value} {w : World} {S : Nat → Prop} (h : (rowR e size A n c xs).p w S) {j : Nat} {v : Value} (hj : xs[j]? = some v) : w.cell? ((adr A).add j) = some v := by
 obtain ⟨hl, hs⟩ := h
 have h1 : j < xs.length := by
  rcases Nat.lt_or_ge j xs.length with h' | h'
  ·exact h'
  ·rw [List.getElem?_eq_none h'] at hj; cases hj
 rcases hs with ⟨_, rfl, _⟩ | ⟨g, cur, rfl, _, e3, _, _, _, ht⟩
 ·rw [hl] at h1; simp at h1
 ·show w.cell? ((⟨g, 0, none⟩ : Addr).add j) = some v
  rw [Addr.add_lit, cell_of_row w g (0 + j) cur e (0, 0) e3]
  rw [← ht, List.getElem?_take] at hj
  split at hj
  ·simpa using hj
  ·cases hj
theorem rowR.slice {e : TypeId} {size n c : Nat} {A : Option Addr} {xs : List Value} {w : World} {S : Nat → Prop} (h : (rowR e size A n c xs).p w S) : ∃ S', (sliceR size A n xs).p w S' ∧ ∀ k, S' k → S k := by
 by_cases h0 : xs.length = 0
 ·exact ⟨fun _ => False, ⟨h.1, by rw [if_pos h0]; exact fun _ h => h⟩, fun k hk => hk.elim⟩
 ·refine ⟨S, ⟨h.1, ?_⟩, fun k hk => hk⟩
  rw [if_neg h0]
  have hc := fun j v hj => rowR.cell h (j := j) (v := v) hj
  rcases h.2 with ⟨_, rfl, _⟩ | ⟨g, cur, rfl, e2, e3, _⟩
  ·exact absurd (by simpa using h.1) h0
  ·exact ⟨_, rfl, e2, hc⟩
theorem row_append {P : Program} {t ty e : TypeId} {size bytes : Nat} {z : Value} (he : elt P t = some (e, size, bytes)) (hz : zer P e = some z) (hzs : z.cells.size = size) {A : Option Addr} {n c m c' : Nat} {xs news : List Value} {ad : Addr} {w : World} {S1 : Nat → Prop}
  (h : (rowR e size A n c xs).p w S1) (hl : news.length = m * size) (hnews : ∀ j u, news[j]? = some u → w.cell? (ad.add j) = some u) (h1 : ∀ u ∈ news, u.oneCell' = true) (hm : 0 < m) (h63 : n + m ≤ maxLen) (hbytes : (n + m) * bytes ≤ 140737488355328) :
  ∃ A' c2 w' S', (Builtin.append_ #[t, t] ty #[.slice A n c, .slice (some ad) m c']).run P w = .ok (.slice A' (n + m) c2) w' ∧ (rowR e size A' (n + m) c2 (xs ++ news)).p w' S' ∧ Keeps S1 w w' ∧ (∀ k, S' k → S1 k ∨ w.heap.size ≤ k) := by
 unfold elt at he
 cases hu : P.underlying t with
 | none => rw [hu] at he; simp at he
 | some d =>
  rw [hu] at he
  cases d <;> simp at he
  rename_i e'
  obtain ⟨i, hi, rfl, rfl, rfl⟩ := he
  have hz' : i.zero = some z := by
   unfold zer at hz
   rw [hi] at hz
   simpa using hz
  have hsmall : n + m ≤ 9223372036854775807 := by simp only [maxLen] at h63; omega
  have hlen : (xs ++ news).length = (n + m) * i.size := by rw [List.length_append, h.1, hl, Nat.add_mul]
  have grown : ∀ (old : Nat), old < n + m →
    (rowR e' i.size (some ⟨w.heap.size, 0, none⟩) (n + m) (grownCap w (n + m) old e') (xs ++ news)).p (w.drew.alloc (.cells (xs.toArray ++ news.toArray ++ Builtin.zeroCells z.cells (grownCap w (n + m) old e' - (n + m))) e')) (fun k => k = w.heap.size) ∧
    Keeps S1 w (w.drew.alloc (.cells (xs.toArray ++ news.toArray ++ Builtin.zeroCells z.cells (grownCap w (n + m) old e' - (n + m))) e')) := by
   intro old ho
   have hge := grownCap_ge w (n + m) old e'
   have hcm : grownCap w (n + m) old e' ≤ maxLen := grownCap_le_maxLen w (n + m) old e' h63
   refine ⟨⟨hlen, .inr ⟨w.heap.size, _, rfl, fun _ => Iff.rfl, heap_alloc_new w.drew _, hge, hcm, ?_, ?_⟩⟩, ⟨rfl, rfl, rfl, by simp, fun k hk _ => Below.heap_alloc w.drew _ k hk⟩⟩
   ·simp only [Array.size_append, List.size_toArray, size_zeroCells, hzs, h.1, hl, ← Nat.add_mul]
    congr 1
    omega
   ·simp only [Array.toList_append, List.append_assoc]
    rw [← List.append_assoc, ← hlen]
    exact List.take_left
  have hc := fun j v hj => rowR.cell h (j := j) (v := v) hj
  rcases h.2 with ⟨rfl, rfl, rfl, hS⟩ | ⟨g, cur, rfl, hS, hg, hnc, hcm, hcs, htake⟩
  ·have hx : xs = [] := List.eq_nil_of_length_eq_zero (by simpa using h.1)
   subst hx
   have hr := run_append_nil (P := P) w t ty e' i z hu hi hz' ad m c' news hl hnews hm (by omega) (by have hb := hbytes; simp only [Nat.zero_add] at hb; omega)
   have hgr := grown 0 (by omega)
   simp only [Nat.zero_add, List.nil_append, Array.empty_append] at hgr ⊢
   exact ⟨_, _, _, _, hr, hgr.1, hgr.2, fun k hk => .inr (by omega)⟩
  ·by_cases hroom : n + m ≤ c
   ·have hfit : n * i.size + news.length ≤ cur.size := by rw [hl, hcs, ← Nat.add_mul]; exact Nat.mul_le_mul_right _ hroom
    have hr := run_append_room (P := P) w t ty e' i hu hi g n c cur hg ad m c' news hl hnews h1 hroom hfit
    refine ⟨_, _, _, S1, hr, ⟨hlen, .inr ⟨g, _, rfl, hS, setRow_heap w g cur _ e' _ hg, hroom, hcm, ?_, ?_⟩⟩, ⟨rfl, rfl, rfl, by simp, fun k _ hk => setRow_other w g k _ (fun e => hk ((hS k).2 e))⟩, fun k hk => .inl hk⟩
    ·simp only [List.size_toArray, List.length_append, List.length_take, List.length_drop, Array.length_toList]
     omega
    ·rw [htake, ← hlen]
     exact List.take_left
   ·have hr := run_append_grow (P := P) w t ty e' i z hu hi hz' ⟨g, 0, none⟩ n c xs h.1 (by simpa [adr] using hc) ad m c' news hl hnews (by omega) (by omega) (growslice_fits (by omega) hbytes)
    have hgr := grown c (by omega)
    exact ⟨_, _, _, _, hr, hgr.1, hgr.2, fun k hk => .inr (by omega)⟩
theorem sep1 {r : Res} {w : World} {S : Nat → Prop} (h : r.p w S) : Sep w [r] S := ⟨S, fun _ => False, h, fun _ h => h, fun _ _ h => h, fun _ => by simp⟩
theorem fac0 {w : World} : Fac w [] (fun _ => False) := fun r hr => nomatch hr
section
variable {E : Env} {ty : TypeId} {σ : List (Nat × Value)} {μ φ : List Res}
theorem YJ_row {op : Op} {e : TypeId} {size n c : Nat} {A : Option Addr} {xs : List Value} {v : Value} (hm : rowR e size A n c xs ∈ μ) (h : YJ E op ty σ μ (sliceR size A n xs :: φ) v) : YJ E op ty σ μ φ v := fun a w d pos af g hs h1 h2 =>
 h a w d pos af g hs h1 (fun r hr => by
  rcases List.mem_cons.1 hr with rfl | hr
  ·obtain ⟨S, hS⟩ := h1 _ hm
   obtain ⟨S', h', _⟩ := rowR.slice hS
   exact ⟨S', h'⟩
  ·exact h2 r hr)
def Rd (μ φ : List Res) (B : Option Addr) (news : List Value) : Prop := ∀ w, Hold w μ → Hold w φ → ∃ ad, B = some ad ∧ ∀ j u, news[j]? = some u → w.cell? (ad.add j) = some u
theorem Rd_own {b : Nat} {cs : List Value} {t : TypeId} (hm : cellsR b cs.toArray t ∈ μ) : Rd μ φ (some ⟨b, 0, none⟩) cs := fun w h1 _ => by
 obtain ⟨S, h, _⟩ := h1 _ hm
 refine ⟨_, rfl, fun j u hj => ?_⟩
 rw [Addr.add_lit, cell_of_row w b (0 + j) cs.toArray t (0, 0) h]
 simpa using hj
theorem Rd_fact {size n : Nat} {A : Option Addr} {xs : List Value} (hm : sliceR size A n xs ∈ φ) (h0 : 0 < xs.length) : Rd μ φ A xs := fun w _ h2 => by
 obtain ⟨S, h⟩ := h2 _ hm
 exact ⟨adr A, sliceR.some_ h h0, fun j u hj => sliceR.cell h hj⟩
theorem OJ_append {t e : TypeId} {size bytes : Nat} {z : Value} {x y : Operand} {A B : Option Addr} {n c m c' : Nat} {xs news ys : List Value} {μr : List Res} (he : elt E.P t = some (e, size, bytes)) (hz : zer E.P e = some z) (hzs : z.cells.size = size)
  (hx : oev σ x = some (.slice A n c)) (hy : oev σ y = some (.slice B m c')) (hp : List.Perm μ (rowR e size A n c xs :: μr)) (hrd : Rd μ φ B news) (hl : news.length = m * size) (h1 : news.all (·.oneCell') = true) (hm : 0 < m) (h63 : n + m ≤ 1073741824) (hb : bytes ≤ 65536) (hys : xs ++ news = ys) :
  OJ E (.call { callee := .builtin .append, args := #[x, y], argTypes := #[t, t] }) ty σ μ φ (fun v μ' φ' => ∃ A' c2, v = .slice A' (n + m) c2 ∧ μ' = rowR e size A' (n + m) c2 ys :: μr ∧ φ' = φ) := fun a w d pos af g K Q hs hm0 hK => by
 subst hys
 obtain ⟨ad, rfl, hnews⟩ := hrd w hm0.hold.1 hm0.hold.2
 obtain ⟨S1, T, k1, k2, k3, k4, k5⟩ := hm0.lend (μ1 := [rowR e size A n c xs]) (μr := μr) (φ1 := []) hp (fun _ h => nomatch h)
 obtain ⟨S2, S3, q1, q2, q3, q4⟩ := k1
 have hS : S1 = S2 := funext fun k => propext ⟨fun h => ((q4 k).1 h).resolve_right (q2 k), fun h => (q4 k).2 (.inl h)⟩
 subst hS
 obtain ⟨A', c2, w', S', hr, g1, g2, g3⟩ := row_append (ty := ty) (c' := c') he hz hzs q1 hl hnews (List.all_eq_true.1 h1) hm (by simp only [maxLen]; omega) (by
  have : (n + m) * bytes ≤ 1073741824 * 65536 := Nat.mul_le_mul h63 hb
  omega)
 have : (execOp a.eval ⟨d, .call { callee := .builtin .append, args := #[x, y], argTypes := #[t, t] }, ty, pos, af, g⟩).run E.P w = .ok (.value (.slice A' (n + m) c2)) w' := by
  simp only [execOp, resolve, invoke, builtin, Sem.run_bind, Sem.run_pure, Result.andThen_ok, List.map_toArray, List.map_cons, List.map_nil, hs.ev hx, hs.ev hy, hr]
 unfold Oper.wp
 rw [this, Oper.upon_value]
 refine hK _ _ _ _ ⟨A', c2, rfl, rfl, rfl⟩ (k5 w' [rowR e size A' (n + m) c2 (xs ++ news)] [] g2 ⟨S', fun _ => False, sep1 g1, fac0, fun _ _ h => h, g3, fun _ h => h.elim, fun _ h => h.elim⟩)
theorem OJ_storeRow {t e : TypeId} {x y : Operand} {n c m size off : Nat} {A : Option Addr} {ad : Addr} {v : Value} {ag : Bool} {xs xs' : List Value} {μr : List Res} (hp : List.Perm μ (rowR e size A n c xs :: μr)) (hx : oev σ x = some (.pointer (some ad))) (had : ad = (adr A).add off) (hy : oev σ y = some v)
  (ht : tyi E.P t = some (ag, m)) (hn : v.cells.size = m) (hb : off + m ≤ xs.length) (h1 : v.cells.toList.all (·.oneCell') = true) (hxs : xs.take off ++ (v.cells.toList ++ xs.drop (off + m)) = xs') (hm0 : 0 < xs.length) :
  OJ E (.store t x y) ty σ μ φ (fun _ μ' φ' => μ' = rowR e size A n c xs' :: μr ∧ φ' = φ) := fun a w d pos af g K Q hs hm hK => by
 subst hxs
 subst had
 obtain ⟨S1, T, k1, k2, k3, k4, k5⟩ := hm.lend (μ1 := [rowR e size A n c xs]) (μr := μr) (φ1 := []) hp (fun _ h => nomatch h)
 obtain ⟨S2, S3, q1, q2, q3, q4⟩ := k1
 have hS : S1 = S2 := funext fun k => propext ⟨fun h => ((q4 k).1 h).resolve_right (q2 k), fun h => (q4 k).2 (.inl h)⟩
 subst hS
 obtain ⟨hl, hrow⟩ := q1
 rcases hrow with ⟨_, h0, _⟩ | ⟨g', cur, rfl, hS, hg, hnc, hcm, hcs, htake⟩
 ·rw [hl, h0] at hm0; simp at hm0
 ·have hle : n * size ≤ cur.size := by rw [hcs]; exact Nat.mul_le_mul_right _ hnc
  have hvl : v.cells.toList.length = m := by rw [Array.length_toList]; exact hn
  obtain ⟨w', e1, e2, e3, e4, e5, e6, e7⟩ := run_storeCells_wr (P := E.P) g' off e v.cells.toList 0 cur w hg (by omega) (List.all_eq_true.1 h1)
  have hadr : (adr (some ⟨g', 0, none⟩)).add off = ⟨g', off, none⟩ := by
   show (⟨g', 0, none⟩ : Addr).add off = _
   rw [Addr.add_lit, Nat.zero_add]
  rw [hadr] at hx
  have : (execOp a.eval ⟨d, .store t x y, ty, pos, af, g⟩).run E.P w = .ok .skip w' := by
   simp only [execOp, hs.ev hx, hs.ev hy]
   simp [Instr.storeAt, Instr.sureAddr, storeVar, run_sizeOf' ht, hn, e1]
  unfold Oper.wp
  rw [this, Oper.upon_skip]
  refine hK undef _ _ _ ⟨rfl, rfl⟩ (k5 w' [rowR e size _ n c (xs.take off ++ (v.cells.toList ++ xs.drop (off + m)))] [] ⟨e4, e5, e6, by omega, fun k hk hn => e3 k (fun e => hn ((hS k).2 e))⟩ ⟨S1, fun _ => False, sep1 ?_, fac0, fun _ _ h => h, fun k hk => .inl hk, fun _ h => h.elim, fun _ h => h.elim⟩)
  refine ⟨?_, .inr ⟨g', _, rfl, hS, e2, hnc, hcm, by rw [wr_size]; exact hcs, ?_⟩⟩
  ·rw [← hl]; simp; omega
  ·simp only [Nat.add_zero]
   rw [wr_list _ _ _ (by omega), hvl]
   have hxl : xs.length ≤ cur.toList.length := by rw [hl, Array.length_toList]; exact hle
   have h3 : xs.take off = cur.toList.take off := by rw [← htake, List.take_take, Nat.min_eq_left (by omega)]
   have h4 : xs.drop (off + m) = (cur.toList.drop (off + m)).take (n * size - (off + m)) := by rw [← htake, List.drop_take]
   have hl1 : (cur.toList.take off).length = off := by rw [List.length_take]; omega
   have hm2 : off + m ≤ n * size := by rw [← hl]; exact hb
   rw [h3, h4, List.take_append, hl1, List.take_of_length_le (l := cur.toList.take off) (i := n * size) (by rw [hl1]; omega), List.take_append, hvl, List.take_of_length_le (l := v.cells.toList) (i := n * size - off) (by rw [hvl]; omega)]
   congr 3
   omega
theorem rowR.short {e : TypeId} {size n n' c : Nat} {A : Option Addr} {xs : List Value} (hn : n' ≤ n) {w : World} {S : Nat → Prop} (h : (rowR e size A n c xs).p w S) : (rowR e size A n' c (xs.take (n' * size))).p w S := by
 obtain ⟨hl, hrow⟩ := h
 have hle : n' * size ≤ n * size := Nat.mul_le_mul_right _ hn
 refine ⟨by rw [List.length_take, hl]; omega, ?_⟩
 rcases hrow with ⟨rfl, rfl, rfl, h⟩ | ⟨g', cur, rfl, hS, hg, hnc, hcm, hcs, htake⟩
 ·exact .inl ⟨rfl, by omega, rfl, h⟩
 ·refine .inr ⟨g', cur, rfl, hS, hg, by omega, hcm, hcs, ?_⟩
  rw [← htake, List.take_take, Nat.min_eq_left hle]
theorem OKm.head {r r' : Res} {w : World} (h : OKm E (r :: μ) φ w) (hr : ∀ w S, r.p w S → r'.p w S) : OKm E (r' :: μ) φ w :=
 h.turn (fun S ⟨S1, S2, a, b⟩ => ⟨S1, S2, hr _ _ a, b⟩) (fun _ h => h)
theorem rowR.none_ (e : TypeId) (size : Nat) {w : World} : (rowR e size none 0 0 []).p w (fun _ => False) := ⟨by simp, .inl ⟨rfl, rfl, rfl, fun _ h => h⟩⟩
theorem OKm.newRow {w : World} (h : OKm E μ φ w) (e : TypeId) (size : Nat) : OKm E (rowR e size none 0 0 [] :: μ) φ w := by
 refine ⟨h.keeps, ?_⟩
 obtain ⟨S, T, h1, h2⟩ := h.mem
 exact ⟨S, T, ⟨fun _ => False, S, rowR.none_ e size, h1, fun _ h => h.elim, fun _ => by simp⟩, h2⟩
theorem OKm.freezeRow {e : TypeId} {size n c : Nat} {A : Option Addr} {xs : List Value} {w : World} (h : OKm E (rowR e size A n c xs :: μ) φ w) : OKm E μ (sliceR size A n xs :: φ) w :=
 (OKm.addF (r := rowR e size A n c xs) (r' := sliceR size A n xs) h.freeze (.head _) (fun S hS => rowR.slice hS)).turn (fun _ h => h) (fun T hT r hr => hT r (by
  rcases List.mem_cons.1 hr with rfl | hr
  ·exact .head _
  ·exact .tail _ (.tail _ hr)))
variable {Q : Qt} {ops : Array Oper} {rest : List Oper} {c : Code}
theorem CJ_newRow (e : TypeId) (size : Nat) (h : CJ E Q c σ (rowR e size none 0 0 [] :: μ) φ) : CJ E Q c σ μ φ := fun a w ha hm => h a w ha (hm.newRow e size)
def frF {ι : Type} (F : ι → St) (μr φr : List Res) : ι → St := fun i => ⟨(F i).σ, (F i).μ ++ μr, (F i).φ ++ φr⟩
theorem CJ_loopF {ι : Type} (F : ι → St) (I : ι → Prop) (m : ι → Nat) (i0 : ι) {μr : List Res} (h0 : I i0) (hs : AllLk σ (F i0).σ) (hp : List.Perm μ ((F i0).μ ++ μr)) (hf : ∀ r, r ∈ (F i0).φ → r ∈ φ)
  (h : ∀ i, I i → CJ E (Exit.then (fun a' w' => ∃ j, I j ∧ m j < m i ∧ OKa E (frF F μr φ j).σ a' ∧ OKm E (frF F μr φ j).μ (frF F μr φ j).φ w') Q) c (F i).σ ((F i).μ ++ μr) ((F i).φ ++ φ)) : CJ E Q (.loop c) σ μ φ :=
 CJ_loop (frF F μr φ) I m i0 (μr := []) h0 hs (by simpa [frF] using hp) (fun r hr => (List.mem_append.1 hr).elim (hf r) id) h
theorem RJ_loopF {ι : Type} {l n : Nat} (F : ι → St) (I : ι → Prop) (m : ι → Nat) (i0 : ι) {μr : List Res} (h0 : I i0) (hs : AllLk σ (F i0).σ) (hp : List.Perm μ ((F i0).μ ++ μr)) (hf : ∀ r, r ∈ (F i0).φ → r ∈ φ)
  (h : ∀ i, I i → RJ l n E (Exit.then (fun a' w' => ∃ j, I j ∧ m j < m i ∧ OKa E (frF F μr φ j).σ a' ∧ OKm E (frF F μr φ j).μ (frF F μr φ j).φ w') Q) c (F i).σ ((F i).μ ++ μr) ((F i).φ ++ φ)) : RJ l n E Q (.loop c) σ μ φ :=
 RJ_loop (frF F μr φ) I m i0 (μr := []) h0 hs (by simpa [frF] using hp) (fun r hr => (List.mem_append.1 hr).elim (hf r) id) h
theorem QJ_roundF {ι : Type} {F : ι → St} {I : ι → Prop} {m : ι → Nat} {i : ι} {μr φr : List Res} (j : ι) {μd : List Res} (hI : I j) (hm : m j < m i) (hs : AllLk σ (F j).σ) (hp : List.Perm μ (((F j).μ ++ μr) ++ μd)) (hf1 : ∀ r, r ∈ (F j).φ → r ∈ φ) (hf2 : ∀ r, r ∈ φr → r ∈ φ) :
  QJ E (Exit.then (fun a' w' => ∃ j, I j ∧ m j < m i ∧ OKa E (frF F μr φr j).σ a' ∧ OKm E (frF F μr φr j).μ (frF F μr φr j).φ w') Q) .normal σ μ φ :=
 QJ_round (F := frF F μr φr) j hI hm hs hp (fun r hr => (List.mem_append.1 hr).elim (hf1 r) (hf2 r))
end
end Go.Proofs.Ytbanlhlggkdanaa
namespace Go.Proofs.Ytbanlhlggkdanaa
open Go.RowKit
theorem tyi_28 : tyi Try.prog 28 = some (false, 1) := by kernel_rfl
theorem ent_19 : Enter Try.prog 19 = true := by kernel_rfl
theorem ent_50 : Enter Try.prog 50 = true := by kernel_rfl
def realsF : Nat → List Tr → List (Nat × Tr)
 | _, [] => []
 | k, t :: r => if t.real then (k, t) :: realsF (k + 1) r else realsF (k + 1) r
abbrev reals (tris : List Tr) : List (Nat × Tr) := realsF 0 tris
theorem realsF_app : ∀ (a b : List Tr) (k : Nat), realsF k (a ++ b) = realsF k a ++ realsF (k + a.length) b
 | [], b, k => by simp [realsF]
 | t :: a, b, k => by
  simp only [List.cons_append, realsF, List.length_cons]
  rw [realsF_app a b (k + 1), show k + 1 + a.length = k + (a.length + 1) by omega]
  split <;> simp
theorem reals_step {tris : List Tr} {k : Nat} {t : Tr} (ht : tris[k]? = some t) : reals (tris.take (k + 1)) = reals (tris.take k) ++ if t.real then [(k, t)] else [] := by
 have hk : k < tris.length := (List.getElem?_eq_some_iff.1 ht).1
 have e : tris.take (k + 1) = tris.take k ++ [t] := by rw [List.take_add_one, ht]; rfl
 have hl : (tris.take k).length = k := by rw [List.length_take]; omega
 rw [reals, reals, e, realsF_app, hl, Nat.zero_add]
 simp [realsF]
theorem reals_pre (tris : List Tr) (k : Nat) : reals (tris.take k) <+: reals tris := by
 have := realsF_app (tris.take k) (tris.drop k) 0
 rw [List.take_append_drop] at this
 exact ⟨_, this.symm⟩
theorem realsF_mem : ∀ {tris : List Tr} {b k : Nat} {t : Tr}, (k, t) ∈ realsF b tris ↔ b ≤ k ∧ tris[k - b]? = some t ∧ t.real
 | [], b, k, t => by simp [realsF]
 | u :: r, b, k, t => by
  have ih := realsF_mem (tris := r) (b := b + 1) (k := k) (t := t)
  unfold realsF
  split
  ·rename_i hu
   rw [List.mem_cons, ih]
   constructor
   ·rintro (h | ⟨h1, h2, h3⟩)
    ·simp only [Prod.mk.injEq] at h
     obtain ⟨rfl, rfl⟩ := h
     simp [hu]
    ·refine ⟨by omega, ?_, h3⟩
     rw [show k - b = (k - (b + 1)) + 1 by omega]
     simpa using h2
   ·rintro ⟨h1, h2, h3⟩
    by_cases e : k = b
    ·subst e
     simp at h2
     subst h2
     exact .inl rfl
    ·refine .inr ⟨by omega, ?_, h3⟩
     rw [show k - b = (k - (b + 1)) + 1 by omega] at h2
     simpa using h2
  ·rename_i hu
   rw [ih]
   constructor
   ·rintro ⟨h1, h2, h3⟩
    refine ⟨by omega, ?_, h3⟩
    rw [show k - b = (k - (b + 1)) + 1 by omega]
    simpa using h2
   ·rintro ⟨h1, h2, h3⟩
    by_cases e : k = b
    ·subst e
     simp at h2
     subst h2
     exact absurd h3 hu
    ·refine ⟨by omega, ?_, h3⟩
     rw [show k - b = (k - (b + 1)) + 1 by omega] at h2
     simpa using h2
theorem reals_mem {tris : List Tr} {k : Nat} {t : Tr} : (k, t) ∈ reals tris ↔ tris[k]? = some t ∧ t.real := by
 rw [reals, realsF_mem]
 simp
def encT (x : Nat × Tr) : List Value := [.int .i64 x.1, .agg x.2.cells.toArray]
def allFs (b B : Nat) (h : Mh) (pts : List (Int × Int)) (tris : List Tr) : List Res := sliceR 1 (some ⟨b, 0, none⟩) 1 [.pointer (some ⟨B, 0, none⟩)] :: meshFs B h pts tris
theorem mem_sw {a b c : List Res} : ∀ r, r ∈ a ++ (b ++ c) → r ∈ b ++ (a ++ c) := fun r h => by
 simp only [List.mem_append] at *
 rcases h with h | h | h
 ·exact .inr (.inl h)
 ·exact .inl h
 ·exact .inr (.inr h)
theorem mem_sub3 {a b c d : List Res} : ∀ r, r ∈ a ++ (b ++ c) → r ∈ b ++ (a ++ (d ++ c)) := fun r h => by
 simp only [List.mem_append] at *
 rcases h with h | h | h
 ·exact .inr (.inl h)
 ·exact .inl h
 ·exact .inr (.inr (.inr h))
set_option maxRecDepth 100000 in
set_option maxHeartbeats 1000000 in
theorem all_c {B : Nat} : Tri Try.prog 19 [.pointer (some ⟨B, 0, none⟩)] [] [] (RetX (fun _ : Nat => True) (fun b => .func (.func 50) #[] #[.pointer (some ⟨b, 0, none⟩)]) (fun _ => []) (fun b => [sliceR 1 (some ⟨b, 0, none⟩) 1 [.pointer (some ⟨B, 0, none⟩)]])) := by
 refine Tri_of (N := 4) Try.func19 rfl ent_19 rfl rfl ?_
 intro w0 S0 T0
 show CJ _ _ _ [(0, _)] _ _
 refine CJ_seq ?_
 refine CJ_reg ?_
 refine LJ_box (cs := #[_]) rfl rfl rfl rfl ?_
 intro b1
 refine LJ_freeze ?_
 refine LJ_addF (r' := sliceR 1 (some ⟨b1, 0, none⟩) 1 [.pointer (some ⟨B, 0, none⟩)]) (.head _) (fun w S h => cellsR_slice (n := 1) rfl w S h) ?_
 refine LJ_y rfl rfl (YJ_assign rfl) ?_
 refine LJ_nil ?_
 refine QJ_then ?_
 refine CJ_seq ?_
 refine CJ_reg ?_
 refine LJ_y rfl rfl (YJ_makeFunc (vs := []) (us := [_]) rfl rfl) ?_
 refine LJ_y rfl rfl (YJ_assign rfl) ?_
 refine LJ_nil ?_
 refine QJ_then ?_
 refine CJ_ret ?_
 refine QJ_fin (.inl rfl) (μ' := []) (μr := _) (φ' := [_]) (res_tmp rfl rfl) (List.Perm.refl _) (fun r h => by rw [List.mem_singleton] at h; subst h; exact .head _) ?_
 exact ⟨b1, trivial, rfl, rfl, rfl⟩
set_option maxRecDepth 100000 in
set_option maxHeartbeats 1000000 in
theorem all1_c {b B : Nat} {h : Mh} {pts : List (Int × Int)} {tris : List Tr} {l : Nat} {J Jx : List (Nat × Tr) → List Res → List Res → Prop} {φx : List Res} (hlen : tris.length ≤ 1073741824)
  (hy : ∀ pre x μ φ, (pre ++ [x]) <+: reals tris → J pre μ φ → YTri Try.prog l (encT x) μ (φ ++ (allFs b B h pts tris ++ φx)) (fun v μ' φ' => (v = .bool true ∧ J (pre ++ [x]) μ' φ') ∨ (v = .bool false ∧ Jx (pre ++ [x]) μ' φ')))
  {μ φ : List Res} (hJ : J [] μ φ) : Tri Try.prog 50 [.func (.yield l) #[] #[], .pointer (some ⟨b, 0, none⟩)] μ (φ ++ (allFs b B h pts tris ++ φx)) (fun _ μ' φ' => J (reals tris) μ' φ' ∨ ∃ pre, pre <+: reals tris ∧ Jx pre μ' φ') := by
 refine Tri_of (N := 26) Try.func50 rfl ent_50 rfl rfl ?_
 intro w0 S0 T0
 show CJ _ _ _ [(0, _), (1, _)] _ _
 refine CJ_weak (σ' := [(0, _), (1, _)]) (μ' := μ) (μr := []) (φ' := allFs b B h pts tris ++ (φ ++ φx)) ⟨rfl, rfl, trivial⟩ (by simp) (fun r h => mem_sw r h) ?_
 refine CJ_seq ?_
 refine CJ_reg ?_
 refine LJ_y rfl rfl (YJ_loadFactP (A := some ⟨b, 0, none⟩) (j := 0) rfl rfl tyi_28 m0 rfl) ?_
 refine LJ_y rfl rfl (YJ_nilCheck rfl) ?_
 refine LJ_y rfl rfl (YJ_fieldOwn rfl fld_57_1 rfl) ?_
 refine LJ_y rfl rfl (YJ_loadFactP (A := some ⟨B, 0, none⟩) (j := 1) rfl rfl tyi_54 m1 rfl) ?_
 refine LJ_y rfl rfl (YJ_len rfl ulen_54 rfl) ?_
 refine LJ_y rfl rfl (YJ_move rfl) ?_
 refine LJ_nil ?_
 refine QJ_then ?_
 refine CJ_block ?_
 refine CJ_loop (F := fun (i : Nat × List Res × List Res) => ⟨[(0, .func (.yield l) #[] #[]), (1, .pointer (some ⟨b, 0, none⟩)), (8, .slice h.T tris.length h.ct), (9, .int .i64 tris.length), (10, .int .i64 (i.1 : Nat))], i.2.1, (allFs b B h pts tris ++ (i.2.2 ++ φx))⟩) (I := fun (i : Nat × List Res × List Res) => i.1 ≤ tris.length ∧ J (reals (tris.take i.1)) i.2.1 i.2.2) (m := fun (i : Nat × List Res × List Res) => tris.length - i.1) (0, μ, φ) (μr := []) ⟨Nat.zero_le _, hJ⟩ (And.intro rfl (And.intro rfl (And.intro rfl (And.intro rfl (And.intro rfl (trivial)))))) ((by simp)) (fun _ h => h) ?_
 rintro ⟨k, μ1, φ1⟩ ⟨hk, hJ⟩
 try dsimp only at hk
 try dsimp only at hJ
 show CJ _ _ _ [(0, .func (.yield l) #[] #[]), (1, .pointer (some ⟨b, 0, none⟩)), (8, .slice h.T tris.length h.ct), (9, .int .i64 tris.length), (10, .int .i64 (k : Nat))] μ1 (allFs b B h pts tris ++ (φ1 ++ φx))
 refine CJ_seq ?_
 refine CJ_reg ?_
 refine LJ_y rfl rfl (YJ_bin rfl rfl rfl) ?_
 refine LJ_nil ?_
 refine QJ_then ?_
 refine CJ_seq ?_
 refine CJ_cond rfl (fun h11 => ?_) (fun h11 => ?_)
 ·simp only [decide_eq_true_eq] at h11
  obtain ⟨t, ht⟩ := get_of_lt (tris := tris) (i := (k : Int)) (by omega) (by omega)
  have htk : tris[k]? = some t := by simpa using ht
  have hst := reals_step htk
  have hri := real_iff (by omega) ht
  refine CJ_skip ?_
  refine QJ_then ?_
  refine CJ_seq ?_
  refine CJ_block ?_
  refine CJ_seq ?_
  refine CJ_reg ?_
  refine LJ_y rfl rfl (YJ_move rfl) ?_
  refine LJ_y rfl rfl (YJ_ixFact rfl rfl elt_54 m3 (by decide) (by omega) (by omega) (by omega)) ?_
  refine LJ_y rfl rfl (YJ_loadFactN (vs := [.int .i64 t.v0, .int .i64 t.v1, .int .i64 t.v2, .int .i64 t.n0, .int .i64 t.n1, .int .i64 t.n2, .bool t.f0, .bool t.f1, .bool t.f2]) (xs := trCells tris) rfl tyi_37 m3 (trCells_row ht) rfl) ?_
  refine LJ_alloc (cs := #[_, _, _, _, _, _, _, _, _]) rfl rfl zer_37 rfl ?_
  intro b1
  refine LJ_y rfl rfl (YJ_assign rfl) ?_
  refine LJ_store (cs' := #[_, _, _, _, _, _, _, _, _]) (μ' := (_ :: _)) 0 rfl rfl rfl rfl tyi_37 rfl (Nat.le_of_ble_eq_true rfl) rfl (wr_all rfl) rfl ?_
  refine LJ_nil ?_
  refine QJ_then ?_
  refine CJ_seq ?_
  refine CJ_regY ?_
  refine LY_y rfl rfl (YJ_loadFactP (A := some ⟨b, 0, none⟩) (j := 0) rfl rfl tyi_28 m0 rfl) ?_
  refine LY_y rfl rfl (YJ_move rfl) ?_
  refine LY_call0 rfl rfl rfl rfl rfl (real_c (h := h) (pts := pts) (tris := tris)) (fun r h => .tail _ (List.mem_append_left _ h)) ?_
  refine LY_y rfl rfl (YJ_move rfl) ?_
  refine LY_boolC (fun h18 => ?_) (fun h18 => ?_)
  ·simp only [decide_eq_true_eq] at h18
   have hstep : reals (tris.take (k + 1)) = reals (tris.take k) ++ [(k, t)] := by rw [hst, if_pos (hri.1 h18)]
   refine LY_y rfl rfl (YJ_move rfl) ?_
   refine LY_y rfl rfl (YJ_move rfl) ?_
   refine LY_y rfl rfl (YJ_loadN (vs := [_, _, _, _, _, _, _, _, _]) rfl tyi_37 m0 rfl rfl) ?_
   refine LY_yield rfl rfl rfl rfl (hy _ (k, t) μ1 φ1 (by rw [← hstep]; exact reals_pre tris (k + 1)) hJ) (μr := [_]) (List.perm_append_singleton _ _).symm (fun r h => mem_sw r h) ?_
   intro v μ2 φ2 hpost
   obtain ⟨c, rfl, hc⟩ : ∃ c : Bool, v = .bool c ∧ ((c = true ∧ J (reals (tris.take k) ++ [(k, t)]) μ2 φ2) ∨ (c = false ∧ Jx (reals (tris.take k) ++ [(k, t)]) μ2 φ2)) := by
    rcases hpost with ⟨rfl, h⟩ | ⟨rfl, h⟩
    ·exact ⟨true, rfl, .inl ⟨rfl, h⟩⟩
    ·exact ⟨false, rfl, .inr ⟨rfl, h⟩⟩
   refine LY_boolC (fun h22 => ?_) (fun h22 => ?_)
   ·skip
    replace hc : J (reals (tris.take (k + 1))) μ2 φ2 := by
     rw [hstep]
     rcases hc with ⟨_, q⟩ | ⟨q, _⟩
     ·exact q
     ·rw [h22] at q; cases q
    refine LY_y rfl rfl (YJ_not rfl) ?_
    refine LY_y rfl rfl (YJ_pickT rfl rfl) ?_
    refine LY_nil ?_
    refine QJ_then ?_
    refine CJ_condF rfl ?_
    refine CJ_skip ?_
    refine QJ_in_normal ?_
    refine QJ_then ?_
    refine CJ_reg ?_
    refine LJ_y rfl rfl (YJ_bin rfl rfl (iop_add (by omega))) ?_
    refine LJ_y rfl rfl (YJ_move rfl) ?_
    refine LJ_nil ?_
    refine QJ_round (F := fun (i : Nat × List Res × List Res) => ⟨[(0, .func (.yield l) #[] #[]), (1, .pointer (some ⟨b, 0, none⟩)), (8, .slice h.T tris.length h.ct), (9, .int .i64 tris.length), (10, .int .i64 (i.1 : Nat))], i.2.1, (allFs b B h pts tris ++ (i.2.2 ++ φx))⟩) (I := fun (i : Nat × List Res × List Res) => i.1 ≤ tris.length ∧ J (reals (tris.take i.1)) i.2.1 i.2.2) (m := fun (i : Nat × List Res × List Res) => tris.length - i.1) (i := (k, μ1, φ1)) ((k + 1, μ2, φ2)) (μr := [_]) ⟨by omega, hc⟩ (by dsimp only; omega) (And.intro rfl (And.intro rfl (And.intro rfl (And.intro rfl (And.intro rfl (trivial)))))) (List.Perm.refl _) (fun r h => mem_sub3 r h)
   ·skip
    replace hc : Jx (reals (tris.take (k + 1))) μ2 φ2 := by
     rw [hstep]
     rcases hc with ⟨q, _⟩ | ⟨_, q⟩
     ·rw [h22] at q; cases q
     ·exact q
    refine LY_y rfl rfl (YJ_not rfl) ?_
    refine LY_y rfl rfl (YJ_pickT rfl rfl) ?_
    refine LY_nil ?_
    refine QJ_then ?_
    refine CJ_condT rfl ?_
    refine CJ_ret ?_
    refine QJ_in_ret ?_
    refine QJ_then_ret ?_
    refine QJ_then_ret ?_
    refine QJ_in_ret ?_
    exact QJ_fin (.inl rfl) (μ' := μ2) (μr := [_]) (φ' := φ2) (res_none rfl) (List.Perm.refl _) (fun r h => List.mem_append_left _ h) (.inr ⟨_, reals_pre tris (k + 1), hc⟩)
  ·simp only [decide_eq_false_iff_not] at h18
   have hstep : reals (tris.take (k + 1)) = reals (tris.take k) := by rw [hst, if_neg (fun q => h18 (hri.2 q)), List.append_nil]
   refine LY_skip rfl rfl ?_
   refine LY_skip rfl rfl ?_
   refine LY_skip rfl rfl ?_
   refine LY_skip rfl rfl ?_
   refine LY_skip rfl rfl ?_
   refine LY_y rfl rfl (YJ_pickF rfl rfl) ?_
   refine LY_nil ?_
   refine QJ_then ?_
   refine CJ_condF rfl ?_
   refine CJ_skip ?_
   refine QJ_in_normal ?_
   refine QJ_then ?_
   refine CJ_reg ?_
   refine LJ_y rfl rfl (YJ_bin rfl rfl (iop_add (by omega))) ?_
   refine LJ_y rfl rfl (YJ_move rfl) ?_
   refine LJ_nil ?_
   refine QJ_round (F := fun (i : Nat × List Res × List Res) => ⟨[(0, .func (.yield l) #[] #[]), (1, .pointer (some ⟨b, 0, none⟩)), (8, .slice h.T tris.length h.ct), (9, .int .i64 tris.length), (10, .int .i64 (i.1 : Nat))], i.2.1, (allFs b B h pts tris ++ (i.2.2 ++ φx))⟩) (I := fun (i : Nat × List Res × List Res) => i.1 ≤ tris.length ∧ J (reals (tris.take i.1)) i.2.1 i.2.2) (m := fun (i : Nat × List Res × List Res) => tris.length - i.1) (i := (k, μ1, φ1)) ((k + 1, μ1, φ1)) (μr := [_]) ⟨by omega, by show J (reals (tris.take (k + 1))) _ _; rw [hstep]; exact hJ⟩ (by dsimp only; omega) (And.intro rfl (And.intro rfl (And.intro rfl (And.intro rfl (And.intro rfl (trivial)))))) ((List.perm_append_singleton _ _).symm) (fun _ h => h)
 ·simp only [decide_eq_false_iff_not] at h11
  refine CJ_exit ?_
  refine QJ_then_exit ?_
  refine QJ_then_exit ?_
  refine QJ_in_exit ?_
  exact QJ_fin (.inr rfl) (μ' := μ1) (μr := []) (φ' := φ1) (res_none rfl) (by simp) (fun r h => List.mem_append_right _ (List.mem_append_left _ h)) (.inl (by rw [List.take_of_length_le (by omega)] at hJ; exact hJ))
theorem all_it {b B : Nat} {h : Mh} {pts : List (Int × Int)} {tris : List Tr} (hlen : tris.length ≤ 1073741824) : ITri Try.prog 50 [.pointer (some ⟨b, 0, none⟩)] encT (reals tris) (allFs b B h pts tris) :=
 ⟨by kernel_rfl, fun _ _ _ _ hy _ _ hJ => all1_c hlen hy hJ⟩
end Go.Proofs.Ytbanlhlggkdanaa
namespace Go.Proofs.Ytbanlhlggkdanaa
open Go.RowKit
theorem fld_37_1 : fld Try.prog 37 1 = some 3 := by kernel_rfl
theorem all_sub {b B : Nat} {h : Mh} {pts : List (Int × Int)} {tris : List Tr} {φ : List Res} (hm : ∀ r, r ∈ meshFs B h pts tris → r ∈ φ) : ∀ r, r ∈ allFs b B h pts tris → r ∈ [sliceR 1 (some ⟨b, 0, none⟩) 1 [.pointer (some ⟨B, 0, none⟩)]] ++ φ := fun r hr => by
 rcases List.mem_cons.1 hr with rfl | hr
 ·exact .head _
 ·exact .tail _ (hm r hr)
def okTris (pts : List (Int × Int)) (tris : List Tr) : Prop := ∀ t, t ∈ tris → t.real → t.ok pts.length
theorem okAt {pts : List (Int × Int)} {tris : List Tr} (h : okTris pts tris) {pre : List (Nat × Tr)} {n : Nat} {t : Tr} (hp : pre ++ [(n, t)] <+: reals tris) : tris[n]? = some t ∧ t.real ∧ t.ok pts.length := by
 have hm : (n, t) ∈ reals tris := hp.subset (by simp)
 have := reals_mem.1 hm
 exact ⟨this.1, this.2, h t (List.mem_of_getElem? this.1) this.2⟩
theorem n_get {t : Tr} {k : Nat} (hk : k < 3) : lget ([.int .i64 t.n0, .int .i64 t.n1, .int .i64 t.n2] : List Value) (((k : Nat) : Int).toNat * 1) = some (.int .i64 (t.n k)) := by
 match k, hk with
 | 0, _ => rfl
 | 1, _ => rfl
 | 2, _ => rfl
theorem cast_idx {tris : List Tr} {n : Nat} {t : Tr} (h : tris[n]? = some t) : tris[(n : Int).toNat]? = some t := by simpa using h
end Go.Proofs.Ytbanlhlggkdanaa
namespace Go.Proofs.Ytbanlhlggkdanaa
open Go.RowKit
theorem OJ_conv {E : Env} {op : Op} {ty : TypeId} {σ : List (Nat × Value)} {μ φ : List Res} {X X' : Value → List Res → List Res → Prop} (ho : OJ E op ty σ μ φ X)
  (h : ∀ v μ' φ', X v μ' φ' → ∃ μ'', X' v μ'' φ' ∧ List.Perm μ' μ'') : OJ E op ty σ μ φ X' := fun a w d pos af g K Q hs hm hK =>
 ho a w d pos af g K Q hs hm fun v μ' φ' w' hx hm' => by
  obtain ⟨μ'', h1, h2⟩ := h v μ' φ' hx
  exact hK v μ'' φ' w' h1 (hm'.weak (μr := []) (by simpa using h2) (fun _ h => h))
theorem perm_at {l : List Res} {k : Nat} {r : Res} (h : l[k]? = some r) : List.Perm l (r :: l.eraseIdx k) := perm_erase l k r h
theorem perm_set {l : List Res} {k : Nat} {r : Res} (r' : Res) (h : l[k]? = some r) : List.Perm (r' :: l.eraseIdx k) (l.set k r') := by
 have hlt : k < l.length := (List.getElem?_eq_some_iff.1 h).1
 have := perm_erase (l.set k r') k r' (by simp [hlt])
 rw [List.eraseIdx_set_eq] at this
 exact this.symm
def layN (P : Program) (t : TypeId) : Option (List Value × List (Nat × Nat)) :=
 match P.info? t, P.underlying t with
 | some it, some (.struct fs) => match it.zero, fs.toList.mapM (fun f => (P.info? f.type).map fun i => (f.offset, i.size)) with
  | some z, some places => some (z.cells.toList, places)
  | _, _ => none
 | _, _ => none
def setParts (places : List (Nat × Nat)) : Array Value → List (Nat × Value) → Array Value
 | cs, [] => cs
 | cs, (i, v) :: r => setParts places (wr cs ((places[i]?).getD (0, 0)).1 v.cells.toList) r
def partsOk (places : List (Nat × Nat)) (n : Nat) (pvs : List (Nat × Value)) : Bool := pvs.all fun p => match places[p.1]? with
 | some (o, s) => Nat.beq p.2.cells.size s && Nat.ble (o + s) n
 | none => false
theorem fill_parts (places : List (Nat × Nat)) : ∀ (pvs : List (Nat × Value)) (cs : Array Value), partsOk places cs.size pvs = true → Instr.fill (places.toArray[·]?) cs pvs = some (setParts places cs pvs)
 | [], cs, _ => by simp [Instr.fill, setParts]
 | (i, v) :: r, cs, h => by
  simp only [partsOk, List.all_cons, Bool.and_eq_true] at h
  obtain ⟨h1, h2⟩ := h
  cases hp : places[i]? with
  | none => rw [hp] at h1; cases h1
  | some q =>
   obtain ⟨o, sz⟩ := q
   rw [hp] at h1
   simp only [Bool.and_eq_true] at h1
   have e1 := Nat.eq_of_beq_eq_true h1.1
   have e2 := Nat.le_of_ble_eq_true h1.2
   have hz : v.cells.zipIdx.foldl (fun (cs : Array Value) (x : Value × Nat) => match x with | (c, j) => cs.setIfInBounds (o + j) c) cs = wr cs o v.cells.toList := by
    have := zip_wr v.cells.toList 0 o cs
    rw [Nat.add_zero] at this
    rw [← this, ← Array.foldl_toList, Array.toList_zipIdx]
   have hp' : places.toArray[i]? = some (o, sz) := by simpa using hp
   simp only [Instr.fill, hp', setParts, hp, Option.getD_some]
   rw [if_neg (by simp only [e1, bne_self_eq_false, ne_eq, not_true_eq_false, decide_false, Bool.false_or, decide_eq_true_eq]; omega), hz]
   exact fill_parts places r _ (by rw [wr_size]; exact h2)
theorem built_of_layN {P : Program} {t : TypeId} {zs : List Value} {places : List (Nat × Nat)} {pvs : List (Nat × Value)} (hl : layN P t = some (zs, places)) (hok : partsOk places zs.length pvs = true) : P.built t pvs = some (setParts places zs.toArray pvs) := by
 unfold layN at hl
 unfold Program.built
 cases hi : P.info? t with
 | none => rw [hi] at hl; simp at hl
 | some it =>
  rw [hi] at hl
  cases hu : P.underlying t with
  | none => rw [hu] at hl; simp at hl
  | some d =>
   rw [hu] at hl
   cases d <;> simp at hl
   rename_i fs
   cases hz : it.zero with
   | none => rw [hz] at hl; simp at hl
   | some z =>
    simp only [hz] at hl ⊢
    generalize (List.mapM (fun (f : Field) => (P.info? f.type).map fun i => (f.offset, i.size)) fs.toList) = ps at *
    cases ps with
    | none => simp at hl
    | some places' =>
     simp only [Option.some.injEq, Prod.mk.injEq] at hl
     obtain ⟨rfl, rfl⟩ := hl
     have := fill_parts places' pvs z.cells (by simpa using hok)
     simpa using this
section
variable {E : Env} {ty : TypeId} {σ : List (Nat × Value)} {μ φ : List Res}
theorem YJ_buildN {t : TypeId} {parts : Array (Nat × Operand)} {pvs : List (Nat × Value)} {zs cs : List Value} {places : List (Nat × Nat)} (hl : layN E.P t = some (zs, places)) (hp : oevP σ parts.toList = some pvs) (hok : partsOk places zs.length pvs = true) (hc : setParts places zs.toArray pvs = cs.toArray) :
  YJ E (.build t parts) ty σ μ φ (.agg cs.toArray) := by
 rw [← hc]
 refine YJ_build (pvs := pvs) (fun a hs => ?_) (built_of_layN hl hok)
 have := hs.evP hp
 simpa using this
theorem OJ_appendK {t e : TypeId} {size bytes : Nat} {z : Value} {x y : Operand} {A B : Option Addr} {n c m c' : Nat} {xs news ys : List Value} (k : Nat) (he : elt E.P t = some (e, size, bytes)) (hz : zer E.P e = some z) (hzs : z.cells.size = size)
  (hk : μ[k]? = some (rowR e size A n c xs)) (hx : oev σ x = some (.slice A n c)) (hy : oev σ y = some (.slice B m c')) (hrd : Rd μ φ B news) (hl : news.length = m * size) (h1 : news.all (·.oneCell') = true) (hm : 0 < m) (h63 : n + m ≤ 1073741824) (hb : bytes ≤ 65536) (hys : xs ++ news = ys) :
  OJ E (.call { callee := .builtin .append, args := #[x, y], argTypes := #[t, t] }) ty σ μ φ (fun v μ' φ' => ∃ A' c2, v = .slice A' (n + m) c2 ∧ μ' = μ.set k (rowR e size A' (n + m) c2 ys) ∧ φ' = φ) :=
 OJ_conv (OJ_append he hz hzs hx hy (perm_at hk) hrd hl h1 hm h63 hb hys) fun v μ' φ' ⟨A', c2, h1, h2, h3⟩ => ⟨_, ⟨A', c2, h1, rfl, h3⟩, by subst h2; exact perm_set _ hk⟩
theorem OJ_storeRowK {t e : TypeId} {x y : Operand} {n c m size off : Nat} {A : Option Addr} {ad : Addr} {v : Value} {ag : Bool} {xs xs' : List Value} (k : Nat) (hk : μ[k]? = some (rowR e size A n c xs)) (hx : oev σ x = some (.pointer (some ad))) (had : ad = (adr A).add off) (hy : oev σ y = some v)
  (ht : tyi E.P t = some (ag, m)) (hn : v.cells.size = m) (hb : off + m ≤ xs.length) (h1 : v.cells.toList.all (·.oneCell') = true) (hxs : xs.take off ++ (v.cells.toList ++ xs.drop (off + m)) = xs') (hm0 : 0 < xs.length) :
  OJ E (.store t x y) ty σ μ φ (fun _ μ' φ' => μ' = μ.set k (rowR e size A n c xs') ∧ φ' = φ) :=
 OJ_conv (OJ_storeRow (perm_at hk) hx had hy ht hn hb h1 hxs hm0) fun v μ' φ' ⟨h1, h2⟩ => ⟨_, ⟨rfl, h2⟩, by subst h1; exact perm_set _ hk⟩
def RetL {ι : Type} (C : ι → Prop) (f : ι → Value) (r : ι → Res) (g : ι → List Res) : Value → List Res → List Res → Prop := fun v μ φ => ∃ x, C x ∧ v = f x ∧ μ = [r x] ∧ φ = g x
def Ret1 (v0 : Value) (r : Res) : Value → List Res → List Res → Prop := fun v μ φ => v = v0 ∧ μ = [r] ∧ φ = []
theorem OJ_call1 {x : Operand} {xs : Array Operand} {at_ : Array TypeId} {f : FuncId} {cap : Array Value} {vs : List Value} {r r' : Res} {φ1 : List Res} {v0 : Value} (k : Nat) (hk : μ[k]? = some r) (hx : oev σ x = some (.func (.func f) #[] cap)) (hxs : oevs σ xs.toList = some vs)
  (ht : Tri E.P f (vs ++ cap.toList) [r] φ1 (Ret1 v0 r')) (hφ : ∀ r, r ∈ φ1 → r ∈ φ) :
  OJ E (.call { callee := .value x, args := xs, argTypes := at_ }) ty σ μ φ (fun v μ' φ' => v = v0 ∧ μ' = μ.set k r' ∧ φ' = φ) :=
 OJ_conv (OJ_call (μr := μ.eraseIdx k) hx hxs ht (perm_at hk) hφ) fun v μ' φ' ⟨_, _, ⟨hv, h1, h2⟩, h3, h4⟩ => ⟨_, ⟨hv, rfl, by subst h2; exact h4⟩, by subst h1; subst h3; exact perm_set _ hk⟩
variable {Q : Qt} {ops : Array Oper} {rest : List Oper} {d : Tmp} {pos : String} {af : Array Edge} {g : Option (Nat × Bool)} {ml pl : List Res} {fuel : Nat} {listed : Array Bool} {M : List (Res × List Nat)}
section
variable {t e : TypeId} {size bytes : Nat} {z : Value} {x y : Operand} {A B : Option Addr} {n c m c' : Nat} {xs news ys : List Value}
theorem LJ_append (k : Nat) (hg : grd ops σ g = some true) (hd : Nat.blt d E.N = true) (he : elt E.P t = some (e, size, bytes)) (hz : zer E.P e = some z) (hzs : z.cells.size = size)
  (hk : μ[k]? = some (rowR e size A n c xs)) (hx : oev σ x = some (.slice A n c)) (hy : oev σ y = some (.slice B m c')) (hrd : Rd μ φ B news) (hl : news.length = m * size) (h1 : news.all (·.oneCell') = true) (hm : 0 < m) (h63 : n + m ≤ 1073741824) (hb : bytes ≤ 65536) (hys : xs ++ news = ys)
  (h : ∀ A' c2, LJ E Q ops rest ((d, .slice A' (n + m) c2) :: σ) (μ.set k (rowR e size A' (n + m) c2 ys)) φ) : LJ E Q ops (⟨some d, .call { callee := .builtin .append, args := #[x, y], argTypes := #[t, t] }, ty, pos, af, g⟩ :: rest) σ μ φ :=
 LJ_o hg hd (OJ_appendK k he hz hzs hk hx hy hrd hl h1 hm h63 hb hys) (by rintro _ _ _ ⟨A', c2, rfl, rfl, rfl⟩; exact h A' c2)
theorem BJ_append (i k : Nat) (hi : ops[i]? = some ⟨some d, .call { callee := .builtin .append, args := #[x, y], argTypes := #[t, t] }, ty, pos, af, g⟩) (hr : Region.ready .any ops listed = [i])
  (hg : grd ops σ g = some true) (hd : Nat.blt d E.N = true) (he : elt E.P t = some (e, size, bytes)) (hz : zer E.P e = some z) (hzs : z.cells.size = size)
  (hk : μ[k]? = some (rowR e size A n c xs)) (hx : oev σ x = some (.slice A n c)) (hy : oev σ y = some (.slice B m c')) (hrd : Rd μ φ B news) (hl : news.length = m * size) (h1 : news.all (·.oneCell') = true) (hm : 0 < m) (h63 : n + m ≤ 1073741824) (hb : bytes ≤ 65536) (hys : xs ++ news = ys)
  (hM : ∀ A' c2, AllM i (μ.set k (rowR e size A' (n + m) c2 ys)) M)
  (h : ∀ A' c2, BJ E Q ops M pl fuel (listed.setIfInBounds i true) ((d, .slice A' (n + m) c2) :: σ) (μ.set k (rowR e size A' (n + m) c2 ys)) φ) : BJ E Q ops M pl (fuel + 1) listed σ μ φ :=
 BJ_o i hi hr hg hd (OJ_appendK k he hz hzs hk hx hy hrd hl h1 hm h63 hb hys) (by rintro _ _ _ ⟨A', c2, rfl, rfl, rfl⟩; exact ⟨hM A' c2, fun _ _ h => h, h A' c2⟩)
end
section
variable {t e : TypeId} {x y : Operand} {n c m size off : Nat} {A : Option Addr} {ad : Addr} {v : Value} {ag : Bool} {xs xs' : List Value} {μ' : List Res}
theorem LJ_storeRow (k : Nat) (hg : grd ops σ g = some true) (hk : μ[k]? = some (rowR e size A n c xs)) (hx : oev σ x = some (.pointer (some ad))) (had : ad = (adr A).add off) (hy : oev σ y = some v)
  (ht : tyi E.P t = some (ag, m)) (hn : v.cells.size = m) (hb : off + m ≤ xs.length) (h1 : v.cells.toList.all (·.oneCell') = true) (hxs : xs.take off ++ (v.cells.toList ++ xs.drop (off + m)) = xs') (hm0 : 0 < xs.length) (hμ' : μ.set k (rowR e size A n c xs') = μ')
  (h : LJ E Q ops rest σ μ' φ) : LJ E Q ops (⟨none, .store t x y, ty, pos, af, g⟩ :: rest) σ μ φ := by
 subst hμ'
 exact LJ_o0 hg (OJ_storeRowK k hk hx had hy ht hn hb h1 hxs hm0) (by rintro _ _ _ ⟨rfl, rfl⟩; exact h)
theorem AJ_storeRow (i k : Nat) (hi : ops[i]? = some ⟨none, .store t x y, ty, pos, af, g⟩) (hr : Region.ready .any ops listed = [i]) (hg : grd ops σ g = some true) (hk : μ[k]? = some (rowR e size A n c xs)) (hx : oev σ x = some (.pointer (some ad))) (had : ad = (adr A).add off) (hy : oev σ y = some v)
  (ht : tyi E.P t = some (ag, m)) (hn : v.cells.size = m) (hb : off + m ≤ xs.length) (h1 : v.cells.toList.all (·.oneCell') = true) (hxs : xs.take off ++ (v.cells.toList ++ xs.drop (off + m)) = xs') (hm0 : 0 < xs.length) (hμ' : μ.set k (rowR e size A n c xs') = μ')
  (hml : (∀ r, r ∈ ml → r ∈ μ) → ∀ r, r ∈ ml → r ∈ μ') (h : AJ E Q ops ml pl fuel (listed.setIfInBounds i true) σ μ' φ) : AJ E Q ops ml pl (fuel + 1) listed σ μ φ := by
 subst hμ'
 exact AJ_o0 i hi hr hg (OJ_storeRowK k hk hx had hy ht hn hb h1 hxs hm0) (by rintro _ _ _ ⟨rfl, rfl⟩; exact ⟨hml, fun _ _ h => h, h⟩)
end
section
variable {ι : Type} {C : ι → Prop} {fv : ι → Value} {rf : ι → Res} {gf : ι → List Res} {x : Operand} {xs : Array Operand} {at_ : Array TypeId} {f : FuncId} {cap : Array Value} {vs vs' : List Value} {r r' : Res} {φ1 : List Res} {v0 : Value}
theorem LJ_callN (hg : grd ops σ g = some true) (hd : Nat.blt d E.N = true) (hx : oev σ x = some (.func (.func f) #[] cap)) (hxs : oevs σ xs.toList = some vs) (hv : vs ++ cap.toList = vs')
  (ht : Tri E.P f vs' [] φ1 (RetL C fv rf gf)) (hφ : ∀ r, r ∈ φ1 → r ∈ φ) (h : ∀ x, C x → LJ E Q ops rest ((d, fv x) :: σ) (rf x :: μ) (gf x ++ φ)) : LJ E Q ops (⟨some d, .call { callee := .value x, args := xs, argTypes := at_ }, ty, pos, af, g⟩ :: rest) σ μ φ := by
 subst hv
 exact LJ_o hg hd (OJ_call (μr := μ) hx hxs ht (List.Perm.refl _) hφ) (by rintro _ _ _ ⟨_, _, ⟨x, hc, rfl, rfl, rfl⟩, rfl, rfl⟩; exact h x hc)
theorem LJ_call1 (k : Nat) (hg : grd ops σ g = some true) (hd : Nat.blt d E.N = true) (hk : μ[k]? = some r) (hx : oev σ x = some (.func (.func f) #[] cap)) (hxs : oevs σ xs.toList = some vs) (hv : vs ++ cap.toList = vs')
  (ht : Tri E.P f vs' [r] φ1 (Ret1 v0 r')) (hφ : ∀ r, r ∈ φ1 → r ∈ φ) (h : LJ E Q ops rest ((d, v0) :: σ) (μ.set k r') φ) : LJ E Q ops (⟨some d, .call { callee := .value x, args := xs, argTypes := at_ }, ty, pos, af, g⟩ :: rest) σ μ φ := by
 subst hv
 exact LJ_o hg hd (OJ_call1 k hk hx hxs ht hφ) (by rintro _ _ _ ⟨rfl, rfl, rfl⟩; exact h)
theorem AJ_call1 (i k : Nat) (hi : ops[i]? = some ⟨some d, .call { callee := .value x, args := xs, argTypes := at_ }, ty, pos, af, g⟩) (hr : Region.ready .any ops listed = [i]) (hg : grd ops σ g = some true) (hd : Nat.blt d E.N = true) (hk : μ[k]? = some r) (hx : oev σ x = some (.func (.func f) #[] cap)) (hxs : oevs σ xs.toList = some vs) (hv : vs ++ cap.toList = vs')
  (ht : Tri E.P f vs' [r] φ1 (Ret1 v0 r')) (hφ : ∀ r, r ∈ φ1 → r ∈ φ) (hml : ∀ q, q ∈ ml → q ∈ μ.set k r') (h : AJ E Q ops ml pl fuel (listed.setIfInBounds i true) ((d, v0) :: σ) (μ.set k r') φ) : AJ E Q ops ml pl (fuel + 1) listed σ μ φ := by
 subst hv
 exact AJ_o i hi hr hg hd (OJ_call1 k hk hx hxs ht hφ) (by rintro _ _ _ ⟨rfl, rfl, rfl⟩; exact ⟨fun r h _ => hml r h, fun _ _ h => h, h⟩)
end
theorem BJ_buildSlice {t e : TypeId} {len size bytes : Nat} {z : Value} {parts : Array (Nat × Operand)} {vs : List Value} {cs : List Value} (i : Nat) (hi : ops[i]? = some ⟨some d, .buildSlice t len parts, ty, pos, af, g⟩) (hr : Region.ready .any ops listed = [i]) (hg : grd ops σ g = some true) (hd : Nat.blt d E.N = true)
  (he : elt E.P t = some (e, size, bytes)) (hz : zer E.P e = some z) (hl : len * size ≤ 16777216) (h0 : len * size ≠ 0) (hs1 : z.cells.size = size)
  (hp : oevP σ parts.toList = some (vs.zipIdx 0 |>.map fun p => (p.2, p.1))) (hlen : vs.length = len) (hv : vs.all (fun v => Nat.beq v.cells.size size) = true) (hc : vs.flatMap (·.cells.toList) = cs)
  (hM : ∀ b, AllM i (cellsR b cs.toArray e :: μ) M) (h : ∀ b, BJ E Q ops M pl fuel (listed.setIfInBounds i true) ((d, .slice (some ⟨b, 0, none⟩) len len) :: σ) (cellsR b cs.toArray e :: μ) φ) : BJ E Q ops M pl (fuel + 1) listed σ μ φ :=
 BJ_o i hi hr hg hd (OJ_buildSliceN he hz hl h0 hs1 hp hlen hv hc) (by rintro _ _ _ ⟨b, rfl, rfl, rfl⟩; exact ⟨hM b, fun _ _ h => h, h b⟩)
theorem OKm.rowSome {e : TypeId} {size n c : Nat} {A : Option Addr} {xs : List Value} {w : World} (h : OKm E μ φ w) (hm : rowR e size A n c xs ∈ μ) (hn : 0 < n) : ∃ g, A = some ⟨g, 0, none⟩ ∧ n ≤ c := by
 obtain ⟨S, hS⟩ := h.hold.1 _ hm
 rcases hS.2 with ⟨_, h0, _⟩ | ⟨g, _, h1, _, _, h2, _⟩
 ·omega
 ·exact ⟨g, h1, h2⟩
variable {cd : Code}
theorem CJ_rowSome {e : TypeId} {size n c : Nat} {A : Option Addr} {xs : List Value} (hm : rowR e size A n c xs ∈ μ) (hn : 0 < n) (h : ∀ g, A = some ⟨g, 0, none⟩ → n ≤ c → CJ E Q cd σ μ φ) : CJ E Q cd σ μ φ := fun a w ha hmm => let ⟨g, hg, hc⟩ := hmm.rowSome hm hn; h g hg hc a w ha hmm
theorem OKm.turnK {w : World} {k : Nat} {r r' : Res} (h : OKm E μ φ w) (hk : μ[k]? = some r) (hr : ∀ w S, r.p w S → r'.p w S) : OKm E (μ.set k r') φ w :=
 ((h.weak (μr := []) (by simpa using perm_at hk) (fun _ h => h)).head hr).weak (μr := []) (by simpa using perm_set r' hk) (fun _ h => h)
theorem CJ_turnK {k : Nat} {r r' : Res} (hk : μ[k]? = some r) (hr : ∀ w S, r.p w S → r'.p w S) (h : CJ E Q cd σ (μ.set k r') φ) : CJ E Q cd σ μ φ := fun a w ha hm => h a w ha (hm.turnK hk hr)
theorem CJ_freezeRowK {e : TypeId} {size n n' c : Nat} {A : Option Addr} {xs xs' : List Value} (k : Nat) (hk : μ[k]? = some (rowR e size A n c xs)) (hn : n = n') (hx : xs = xs') (h : CJ E Q cd σ (μ.eraseIdx k) (sliceR size A n' xs' :: φ)) : CJ E Q cd σ μ φ := by
 subst hn; subst hx
 exact fun a w ha hm => h a w ha (hm.weak (μr := []) (by simpa using perm_at hk) (fun _ h => h)).freezeRow
theorem CJ_freezeCells {b size n : Nat} {cs : Array Value} {xs : List Value} {t : TypeId} (k : Nat) (hk : μ[k]? = some (cellsR b cs t)) (hn : cs.size = n * size) (hx : cs.toList = xs) (h : CJ E Q cd σ (μ.eraseIdx k) (sliceR size (some ⟨b, 0, none⟩) n xs :: φ)) : CJ E Q cd σ μ φ := by
 subst hx
 exact fun a w ha hm => h a w ha ((OKm.addF (r := cellsR b cs t) (r' := sliceR size (some ⟨b, 0, none⟩) n cs.toList) ((hm.weak (μr := []) (by simpa using perm_at hk) (fun _ h => h)).freeze) (.head _) (fun S h => cellsR_slice hn w S h)).turn (fun _ h => h) (fun T hT r hr => hT r (by
  rcases List.mem_cons.1 hr with rfl | hr
  ·exact .head _
  ·exact .tail _ (.tail _ hr))))
theorem CJ_openAt {ι : Type} {f : ι → List Res} (k : Nat) (hk : μ[k]? = some (exR f)) (h : ∀ i, CJ E Q cd σ (f i ++ μ.eraseIdx k) φ) : CJ E Q cd σ μ φ := fun a w ha hm =>
 let ⟨i, h'⟩ := (hm.weak (μr := []) (by simpa using perm_at hk) (fun _ h => h) : OKm E (exR f :: μ.eraseIdx k) φ w).openEx
 h i a w ha h'
end
end Go.Proofs.Ytbanlhlggkdanaa
namespace Go.Proofs.Ytbanlhlggkdanaa
open Go.RowKit
theorem ent_49 : Enter Try.prog 49 = true := by kernel_rfl
theorem fld_37_2 : fld Try.prog 37 2 = some 6 := by kernel_rfl
theorem arrt_35 : arrt Try.prog 35 = some (3, 4, 1) := by kernel_rfl
theorem ent_34 : Enter Try.prog 34 = true := by kernel_rfl
theorem lay_34 : lay1 Try.prog 34 = some [.int .i64 0, .int .i64 0, .int .i64 0] := by kernel_rfl
theorem layn_37 : layN Try.prog 37 = some ([.int .i64 0, .int .i64 0, .int .i64 0, .int .i64 0, .int .i64 0, .int .i64 0, .bool false, .bool false, .bool false], [(0, 3), (3, 3), (6, 3)]) := by kernel_rfl
theorem fld_57_2 : fld Try.prog 57 2 = some 2 := by kernel_rfl
theorem tyi_55 : tyi Try.prog 55 = some (false, 1) := by kernel_rfl
theorem fld_57_3 : fld Try.prog 57 3 = some 3 := by kernel_rfl
theorem ulen_26 : ((#[26] : Array TypeId)[0]?).bind Try.prog.underlying = some (.slice (Try.prog.elem ((#[26] : Array TypeId).getD 0 0))) := by kernel_rfl
structure MD where
 pts : List (Int × Int)
 tris : List Tr
 free : List Int
 ats : List Int
structure Hd where
 P : Option Addr
 cP : Nat
 T : Option Addr
 cT : Nat
 F : Option Addr
 cF : Nat
 A : Option Addr
 cA : Nat
def meshL (B : Nat) (M : MD) (h : Hd) : List Res := [cellsR B #[.slice h.P M.pts.length h.cP, .slice h.T M.tris.length h.cT, .slice h.F M.free.length h.cF, .slice h.A M.ats.length h.cA] 57,
 rowR 23 2 h.P M.pts.length h.cP (ptCells M.pts), rowR 37 9 h.T M.tris.length h.cT (trCells M.tris), rowR 3 1 h.F M.free.length h.cF (Iv M.free), rowR 3 1 h.A M.ats.length h.cA (Iv M.ats)]
def meshR (B : Nat) (M : MD) : Res := exR (meshL B M)
def partL (B : Nat) (P : Option Addr) (nP cP : Nat) (xP : List Value) (T : Option Addr) (nT cT : Nat) (xT : List Value) (F : Option Addr) (nF cF : Nat) (xF : List Value) (A : Option Addr) (nA cA : Nat) (xA : List Value) : List Res :=
 [cellsR B #[.slice P nP cP, .slice T nT cT, .slice F nF cF, .slice A nA cA] 57, rowR 23 2 P nP cP xP, rowR 37 9 T nT cT xT, rowR 3 1 F nF cF xF, rowR 3 1 A nA cA xA]
section
variable {E : Env} {Q : Qt} {σ : List (Nat × Value)} {μ φ μr : List Res} {ops : Array Oper} {rest : List Oper} {cd : Code} {ex : Exit} {B : Nat} {P : Option Addr} {nP cP : Nat} {xP : List Value} {T : Option Addr} {nT cT : Nat} {xT : List Value} {F : Option Addr} {nF cF : Nat} {xF : List Value} {A : Option Addr} {nA cA : Nat} {xA : List Value}
theorem OKm.closeMesh {w : World} (M : MD) (h : OKm E μ φ w) (hp : List.Perm μ (partL B P nP cP xP T nT cT xT F nF cF xF A nA cA xA ++ μr)) (h1 : nP = M.pts.length ∧ xP = ptCells M.pts) (h2 : nT = M.tris.length ∧ xT = trCells M.tris) (h3 : nF = M.free.length ∧ xF = Iv M.free) (h4 : nA = M.ats.length ∧ xA = Iv M.ats) : OKm E (meshR B M :: μr) φ w := by
 obtain ⟨rfl, rfl⟩ := h1; obtain ⟨rfl, rfl⟩ := h2; obtain ⟨rfl, rfl⟩ := h3; obtain ⟨rfl, rfl⟩ := h4
 exact OKm.closeEx (f := meshL B M) (i := ⟨P, cP, T, cT, F, cF, A, cA⟩) (h.weak (μr := []) (by rw [List.append_nil]; exact hp) (fun _ h => h))
theorem QJ_closeMesh (M : MD) (hp : List.Perm μ (partL B P nP cP xP T nT cT xT F nF cF xF A nA cA xA ++ μr)) (h1 : nP = M.pts.length ∧ xP = ptCells M.pts) (h2 : nT = M.tris.length ∧ xT = trCells M.tris) (h3 : nF = M.free.length ∧ xF = Iv M.free) (h4 : nA = M.ats.length ∧ xA = Iv M.ats)
  (h : QJ E Q ex σ (meshR B M :: μr) φ) : QJ E Q ex σ μ φ := fun a w ha hm => h a w ha (hm.closeMesh M hp h1 h2 h3 h4)
theorem CJ_closeMesh (M : MD) (hp : List.Perm μ (partL B P nP cP xP T nT cT xT F nF cF xF A nA cA xA ++ μr)) (h1 : nP = M.pts.length ∧ xP = ptCells M.pts) (h2 : nT = M.tris.length ∧ xT = trCells M.tris) (h3 : nF = M.free.length ∧ xF = Iv M.free) (h4 : nA = M.ats.length ∧ xA = Iv M.ats)
  (h : CJ E Q cd σ (meshR B M :: μr) φ) : CJ E Q cd σ μ φ := fun a w ha hm => h a w ha (hm.closeMesh M hp h1 h2 h3 h4)
theorem LJ_closeMesh (M : MD) (hp : List.Perm μ (partL B P nP cP xP T nT cT xT F nF cF xF A nA cA xA ++ μr)) (h1 : nP = M.pts.length ∧ xP = ptCells M.pts) (h2 : nT = M.tris.length ∧ xT = trCells M.tris) (h3 : nF = M.free.length ∧ xF = Iv M.free) (h4 : nA = M.ats.length ∧ xA = Iv M.ats)
  (h : LJ E Q ops rest σ (meshR B M :: μr) φ) : LJ E Q ops rest σ μ φ := fun a w ha hm => h a w ha (hm.closeMesh M hp h1 h2 h3 h4)
end
theorem addr_eq {g q off : Nat} (h : q = off) : (⟨g, q, none⟩ : Addr) = (adr (some ⟨g, 0, none⟩)).add off := by
 subst h
 show _ = (⟨g, 0, none⟩ : Addr).add q
 rw [Addr.add_lit, Nat.zero_add]
theorem trCells_len : ∀ (l : List Tr), (trCells l).length = l.length * 9
 | [] => rfl
 | t :: l => by
  have := trCells_len l
  simp only [trCells, List.flatMap_cons, List.length_append, List.length_cons, Tr.cells, List.length_nil] at *
  omega
theorem one_set {xs : List Value} {off : Nat} {v : Value} (h : off < xs.length) : xs.take off ++ ([v] ++ xs.drop (off + 1)) = xs.set off v := by
 rw [List.set_eq_take_append_cons_drop, if_pos h]
 rfl
theorem trCells_modify : ∀ {l : List Tr} {k j : Nat} {v : Value} {f : Tr → Tr}, (∀ t, (f t).cells = t.cells.set j v) → j < 9 → (trCells l).set (k * 9 + j) v = trCells (l.modify k f)
 | [], k, j, v, f, _, _ => by simp [trCells]
 | t :: l, 0, j, v, f, hf, hj => by
  simp only [trCells, List.flatMap_cons, List.modify_zero_cons, Nat.zero_mul, Nat.zero_add]
  rw [List.set_append_left _ _ (by simpa [Tr.cells] using hj), hf]
 | t :: l, k + 1, j, v, f, hf, hj => by
  have ih := trCells_modify (l := l) (k := k) hf hj
  simp only [trCells, List.flatMap_cons, List.modify_succ_cons] at *
  rw [List.set_append_right _ _ (by simp [Tr.cells]; omega), ← ih]
  congr 2
  simp [Tr.cells]; omega
theorem trCells_set : ∀ {l : List Tr} {k : Nat} {t : Tr}, k < l.length → (trCells l).take (k * 9) ++ (t.cells ++ (trCells l).drop (k * 9 + 9)) = trCells (l.set k t)
 | [], k, t, h => by simp at h
 | u :: l, 0, t, _ => by
  simp only [trCells, List.flatMap_cons, List.set_cons_zero, Nat.zero_mul, List.take_zero, List.nil_append, Nat.zero_add]
  rw [List.drop_append_of_le_length (by simp [Tr.cells]), List.drop_of_length_le (by simp [Tr.cells]), List.nil_append]
 | u :: l, k + 1, t, h => by
  have ih := trCells_set (l := l) (k := k) (t := t) (by simpa using h)
  have hl : u.cells.length = 9 := rfl
  simp only [trCells, List.flatMap_cons, List.set_cons_succ] at *
  rw [← ih, List.take_append, List.drop_append, hl, List.take_of_length_le (by omega), List.drop_of_length_le (by omega), show (k + 1) * 9 - 9 = k * 9 by omega, show (k + 1) * 9 + 9 - 9 = k * 9 + 9 by omega]
  simp
def Tr.setN (t : Tr) (i : Nat) (u : Int) : Tr := if i = 0 then { t with n0 := u } else if i = 1 then { t with n1 := u } else { t with n2 := u }
def Tr.setF (t : Tr) (i : Nat) (f : Bool) : Tr := if i = 0 then { t with f0 := f } else if i = 1 then { t with f1 := f } else { t with f2 := f }
theorem setN_cells {i : Nat} (hi : i < 3) {u : Int} (t : Tr) : (t.setN i u).cells = t.cells.set (3 + i) (.int .i64 u) := by
 match i, hi with
 | 0, _ => rfl
 | 1, _ => rfl
 | 2, _ => rfl
theorem setF_cells {i : Nat} (hi : i < 3) {f : Bool} (t : Tr) : (t.setF i f).cells = t.cells.set (6 + i) (.bool f) := by
 match i, hi with
 | 0, _ => rfl
 | 1, _ => rfl
 | 2, _ => rfl
theorem row_setN {l : List Tr} {k i off : Nat} {u : Int} (hk : k < l.length) (hi : i < 3) (ho : off = k * 9 + (3 + i)) : (trCells l).take off ++ ((Value.int .i64 u).cells.toList ++ (trCells l).drop (off + 1)) = trCells (l.modify k (·.setN i u)) := by
 subst ho
 rw [← trCells_modify (j := 3 + i) (setN_cells hi) (by omega), ← one_set (by rw [trCells_len]; omega)]
 rfl
theorem row_setF {l : List Tr} {k i off : Nat} {f : Bool} (hk : k < l.length) (hi : i < 3) (ho : off = k * 9 + (6 + i)) : (trCells l).take off ++ ((Value.bool f).cells.toList ++ (trCells l).drop (off + 1)) = trCells (l.modify k (·.setF i f)) := by
 subst ho
 rw [← trCells_modify (j := 6 + i) (setF_cells hi) (by omega), ← one_set (by rw [trCells_len]; omega)]
 rfl
def MD.link (m : MD) (t i u j : Nat) (f : Bool) : MD := { m with tris := (((m.tris.modify t (·.setN i u)).modify u (·.setN j t)).modify t (·.setF i f)).modify u (·.setF j f) }
set_option maxRecDepth 100000 in
set_option maxHeartbeats 1000000 in
theorem link_c {B : Nat} {M : MD} {t i u j : Nat} {f : Bool} (ht : t < M.tris.length) (hu : u < M.tris.length) (hi : i < 3) (hj : j < 3) : Tri Try.prog 49 [.pointer (some ⟨B, 0, none⟩), .int .i64 (t : Int), .int .i64 (i : Int), .int .i64 (u : Int), .int .i64 (j : Int), .bool f] [meshR B M] [] (Ret1 (.tuple #[]) (meshR B (M.link t i u j f))) := by
 refine Tri_of (N := 52) Try.func49 rfl ent_49 rfl rfl ?_
 intro w0 S0 T0
 show CJ _ _ _ [(0, _), (1, _), (2, _), (3, _), (4, _), (5, _)] _ _
 refine CJ_open (fun hd => ?_)
 obtain ⟨P, cP, T, cT, F, cF, A, cA⟩ := hd
 show CJ _ _ _ _ [cellsR B #[.slice P M.pts.length cP, .slice T M.tris.length cT, .slice F M.free.length cF, .slice A M.ats.length cA] _, rowR _ 2 P M.pts.length cP (ptCells M.pts), rowR _ 9 T M.tris.length cT (trCells M.tris), rowR _ 1 F M.free.length cF (Iv M.free), rowR _ 1 A M.ats.length cA (Iv M.ats)] _
 refine CJ_rowSome (A := T) m2 (by omega) (fun gT hT hcT => ?_)
 subst hT
 refine CJ_seq ?_
 refine CJ_regD mix (by kernel_rfl) (fun _ _ _ _ _ h => h) (selR [0, 1, 3, 4] _) _ (selR_sub _ _) (fun _ h => h) ?_
 refine AJ_y 0 rfl (by kernel_rfl) (by kernel_rfl) rfl rfl (YJ_move rfl) ?_
 refine AJ_y 1 rfl (by kernel_rfl) (by kernel_rfl) rfl rfl (YJ_nilCheck rfl) ?_
 refine AJ_y 2 rfl (by kernel_rfl) (by kernel_rfl) rfl rfl (YJ_fieldOwn rfl fld_57_1 rfl) ?_
 refine AJ_y 3 rfl (by kernel_rfl) (by kernel_rfl) rfl rfl (YJ_loadL rfl tyi_54 m0 rfl) ?_
 refine AJ_y 4 rfl (by kernel_rfl) (by kernel_rfl) rfl rfl (YJ_move rfl) ?_
 refine AJ_y 5 rfl (by kernel_rfl) (by kernel_rfl) rfl rfl (YJ_move rfl) ?_
 refine AJ_y 6 rfl (by kernel_rfl) (by kernel_rfl) rfl rfl (YJ_move rfl) ?_
 refine AJ_y 7 rfl (by kernel_rfl) (by kernel_rfl) rfl rfl (YJ_nilCheck rfl) ?_
 refine AJ_y 8 rfl (by kernel_rfl) (by kernel_rfl) rfl rfl (YJ_fieldOwn rfl fld_57_1 rfl) ?_
 refine AJ_y 9 rfl (by kernel_rfl) (by kernel_rfl) rfl rfl (YJ_loadL rfl tyi_54 m0 rfl) ?_
 refine AJ_y 10 rfl (by kernel_rfl) (by kernel_rfl) rfl rfl (YJ_move rfl) ?_
 refine AJ_y 11 rfl (by kernel_rfl) (by kernel_rfl) rfl rfl (YJ_move rfl) ?_
 refine AJ_y 12 rfl (by kernel_rfl) (by kernel_rfl) rfl rfl (YJ_move rfl) ?_
 refine AJ_y 13 rfl (by kernel_rfl) (by kernel_rfl) rfl rfl (YJ_move rfl) ?_
 refine AJ_y 14 rfl (by kernel_rfl) (by kernel_rfl) rfl rfl (YJ_ixOwn rfl rfl elt_54 (by omega) (by omega)) ?_
 refine AJ_y 15 rfl (by kernel_rfl) (by kernel_rfl) rfl rfl (YJ_fieldOwn rfl fld_37_1 rfl) ?_
 refine AJ_y 16 rfl (by kernel_rfl) (by kernel_rfl) rfl rfl (YJ_ixArr rfl rfl arrt_34 (by omega) (by omega) rfl) ?_
 refine AJ_y 18 rfl (by kernel_rfl) (by kernel_rfl) rfl rfl (YJ_ixOwn rfl rfl elt_54 (by omega) (by omega)) ?_
 refine AJ_y 19 rfl (by kernel_rfl) (by kernel_rfl) rfl rfl (YJ_fieldOwn rfl fld_37_1 rfl) ?_
 refine AJ_storeRow (off := t * 9 + (3 + i)) (xs' := trCells (M.tris.modify t (·.setN i u))) (μ' := (_ :: _ :: _ :: _ :: _ :: _)) 17 2 rfl (by kernel_rfl) rfl rfl rfl (addr_eq (by simp only [Nat.add_eq]; omega)) rfl tyi_3 rfl (by simp only [trCells_len, List.length_modify]; omega) rfl (row_setN ht hi rfl) (by simp only [trCells_len, List.length_modify]; omega) rfl (fun _ => AllIn.sub (And.intro m0 (And.intro m1 (And.intro m3 (And.intro m4 (trivial)))))) ?_
 refine AJ_y 20 rfl (by kernel_rfl) (by kernel_rfl) rfl rfl (YJ_ixArr rfl rfl arrt_34 (by omega) (by omega) rfl) ?_
 refine AJ_storeRow (off := u * 9 + (3 + j)) (xs' := trCells ((M.tris.modify t (·.setN i u)).modify u (·.setN j t))) (μ' := (_ :: _ :: _ :: _ :: _ :: _)) 21 2 rfl (by kernel_rfl) rfl rfl rfl (addr_eq (by simp only [Nat.add_eq]; omega)) rfl tyi_3 rfl (by simp only [trCells_len, List.length_modify]; omega) rfl (row_setN (by simp only [List.length_modify]; omega) hj rfl) (by simp only [trCells_len, List.length_modify]; omega) rfl (fun _ => AllIn.sub (And.intro m0 (And.intro m1 (And.intro m3 (And.intro m4 (trivial)))))) ?_
 refine AJ_done (by kernel_rfl) ?_
 refine QJ_then ?_
 refine CJ_regD mix (by kernel_rfl) (fun _ _ _ _ _ h => h) (selR [0, 1, 3, 4] _) _ (selR_sub _ _) (fun _ h => h) ?_
 refine AJ_y 0 rfl (by kernel_rfl) (by kernel_rfl) rfl rfl (YJ_move rfl) ?_
 refine AJ_y 1 rfl (by kernel_rfl) (by kernel_rfl) rfl rfl (YJ_nilCheck rfl) ?_
 refine AJ_y 2 rfl (by kernel_rfl) (by kernel_rfl) rfl rfl (YJ_fieldOwn rfl fld_57_1 rfl) ?_
 refine AJ_y 3 rfl (by kernel_rfl) (by kernel_rfl) rfl rfl (YJ_loadL rfl tyi_54 m0 rfl) ?_
 refine AJ_y 4 rfl (by kernel_rfl) (by kernel_rfl) rfl rfl (YJ_move rfl) ?_
 refine AJ_y 5 rfl (by kernel_rfl) (by kernel_rfl) rfl rfl (YJ_move rfl) ?_
 refine AJ_y 6 rfl (by kernel_rfl) (by kernel_rfl) rfl rfl (YJ_move rfl) ?_
 refine AJ_y 7 rfl (by kernel_rfl) (by kernel_rfl) rfl rfl (YJ_nilCheck rfl) ?_
 refine AJ_y 8 rfl (by kernel_rfl) (by kernel_rfl) rfl rfl (YJ_fieldOwn rfl fld_57_1 rfl) ?_
 refine AJ_y 9 rfl (by kernel_rfl) (by kernel_rfl) rfl rfl (YJ_loadL rfl tyi_54 m0 rfl) ?_
 refine AJ_y 10 rfl (by kernel_rfl) (by kernel_rfl) rfl rfl (YJ_move rfl) ?_
 refine AJ_y 11 rfl (by kernel_rfl) (by kernel_rfl) rfl rfl (YJ_move rfl) ?_
 refine AJ_y 12 rfl (by kernel_rfl) (by kernel_rfl) rfl rfl (YJ_move rfl) ?_
 refine AJ_y 13 rfl (by kernel_rfl) (by kernel_rfl) rfl rfl (YJ_move rfl) ?_
 refine AJ_y 14 rfl (by kernel_rfl) (by kernel_rfl) rfl rfl (YJ_ixOwn rfl rfl elt_54 (by omega) (by omega)) ?_
 refine AJ_y 15 rfl (by kernel_rfl) (by kernel_rfl) rfl rfl (YJ_fieldOwn rfl fld_37_2 rfl) ?_
 refine AJ_y 16 rfl (by kernel_rfl) (by kernel_rfl) rfl rfl (YJ_ixArr rfl rfl arrt_35 (by omega) (by omega) rfl) ?_
 refine AJ_y 18 rfl (by kernel_rfl) (by kernel_rfl) rfl rfl (YJ_ixOwn rfl rfl elt_54 (by omega) (by omega)) ?_
 refine AJ_y 19 rfl (by kernel_rfl) (by kernel_rfl) rfl rfl (YJ_fieldOwn rfl fld_37_2 rfl) ?_
 refine AJ_storeRow (off := t * 9 + (6 + i)) (xs' := trCells (((M.tris.modify t (·.setN i u)).modify u (·.setN j t)).modify t (·.setF i f))) (μ' := (_ :: _ :: _ :: _ :: _ :: _)) 17 2 rfl (by kernel_rfl) rfl rfl rfl (addr_eq (by simp only [Nat.add_eq]; omega)) rfl tyi_4 rfl (by simp only [trCells_len, List.length_modify]; omega) rfl (row_setF (by simp only [List.length_modify]; omega) hi rfl) (by simp only [trCells_len, List.length_modify]; omega) rfl (fun _ => AllIn.sub (And.intro m0 (And.intro m1 (And.intro m3 (And.intro m4 (trivial)))))) ?_
 refine AJ_y 20 rfl (by kernel_rfl) (by kernel_rfl) rfl rfl (YJ_ixArr rfl rfl arrt_35 (by omega) (by omega) rfl) ?_
 refine AJ_storeRow (off := u * 9 + (6 + j)) (xs' := trCells ((((M.tris.modify t (·.setN i u)).modify u (·.setN j t)).modify t (·.setF i f)).modify u (·.setF j f))) (μ' := (_ :: _ :: _ :: _ :: _ :: _)) 21 2 rfl (by kernel_rfl) rfl rfl rfl (addr_eq (by simp only [Nat.add_eq]; omega)) rfl tyi_4 rfl (by simp only [trCells_len, List.length_modify]; omega) rfl (row_setF (by simp only [List.length_modify]; omega) hj rfl) (by simp only [trCells_len, List.length_modify]; omega) rfl (fun _ => AllIn.sub (And.intro m0 (And.intro m1 (And.intro m3 (And.intro m4 (trivial)))))) ?_
 refine AJ_done (by kernel_rfl) ?_
 refine QJ_closeMesh (M.link t i u j f) (permI [] rfl) ⟨rfl, rfl⟩ ⟨by simp [MD.link], rfl⟩ ⟨rfl, rfl⟩ ⟨rfl, rfl⟩ ?_
 exact QJ_fin (.inr rfl) (μ' := [_]) (μr := []) (φ' := []) (res_none rfl) (List.Perm.refl _) (fun _ h => nomatch h) ⟨rfl, rfl, rfl⟩
def Tr.gone : Tr := ⟨-2, -2, -2, -1, -1, -1, false, false, false⟩
def Tr.new (a b c : Int) : Tr := ⟨a, b, c, -1, -1, -1, false, false, false⟩
def MD.drop (m : MD) (t : Nat) : MD := { m with tris := m.tris.set t Tr.gone, free := m.free ++ [(t : Int)] }
def MD.add (m : MD) (p : Int × Int) : MD := { m with pts := m.pts ++ [p], ats := m.ats ++ [-1] }
theorem row_set {l : List Tr} {k off : Nat} {t : Tr} (hk : k < l.length) (ho : off = k * 9) : (trCells l).take off ++ ((Value.agg t.cells.toArray).cells.toList ++ (trCells l).drop (off + 9)) = trCells (l.set k t) := by
 subst ho
 exact trCells_set hk
theorem Iv_app (l : List Int) (k : Int) : Iv l ++ [.int .i64 k] = Iv (l ++ [k]) := by simp [Iv]
theorem ptCells_app : ∀ (l : List (Int × Int)) (p : Int × Int), ptCells l ++ [.int .i64 p.1, .int .i64 p.2] = ptCells (l ++ [p])
 | [], p => rfl
 | q :: l, p => by
  have := ptCells_app l p
  simp only [ptCells, List.flatMap_cons, List.cons_append, List.append_assoc] at *
  rw [this]
theorem trCells_app (l : List Tr) (t : Tr) : trCells l ++ t.cells = trCells (l ++ [t]) := by simp [trCells]
theorem Iv_len (l : List Int) : (Iv l).length = l.length := by simp [Iv]
set_option maxRecDepth 100000 in
set_option maxHeartbeats 1000000 in
theorem drop_c {B : Nat} {M : MD} {t : Nat} (ht : t < M.tris.length) (hlen : M.tris.length ≤ 1000000) (hfl : M.free.length ≤ 1000000) : Tri Try.prog 34 [.pointer (some ⟨B, 0, none⟩), .int .i64 (t : Int)] [meshR B M] [] (Ret1 (.tuple #[]) (meshR B (M.drop t))) := by
 refine Tri_of (N := 23) Try.func34 rfl ent_34 rfl rfl ?_
 intro w0 S0 T0
 show CJ _ _ _ [(0, _), (1, _)] _ _
 refine CJ_open (fun hd => ?_)
 obtain ⟨P, cP, T, cT, F, cF, A, cA⟩ := hd
 show CJ _ _ _ _ [cellsR B #[.slice P M.pts.length cP, .slice T M.tris.length cT, .slice F M.free.length cF, .slice A M.ats.length cA] _, rowR _ 2 P M.pts.length cP (ptCells M.pts), rowR _ 9 T M.tris.length cT (trCells M.tris), rowR _ 1 F M.free.length cF (Iv M.free), rowR _ 1 A M.ats.length cA (Iv M.ats)] _
 refine CJ_rowSome (A := T) m2 (by omega) (fun gT hT hcT => ?_)
 subst hT
 refine CJ_seq ?_
 refine CJ_reg ?_
 refine LJ_y rfl rfl (YJ_move rfl) ?_
 refine LJ_y rfl rfl (YJ_nilCheck rfl) ?_
 refine LJ_y rfl rfl (YJ_fieldOwn rfl fld_57_1 rfl) ?_
 refine LJ_y rfl rfl (YJ_loadL rfl tyi_54 m0 rfl) ?_
 refine LJ_y rfl rfl (YJ_move rfl) ?_
 refine LJ_y rfl rfl (YJ_build1 (cs := [_, _, _]) lay_34 rfl rfl rfl) ?_
 refine LJ_y rfl rfl (YJ_build1 (cs := [_, _, _]) lay_34 rfl rfl rfl) ?_
 refine LJ_y rfl rfl (YJ_buildN (cs := [_, _, _, _, _, _, _, _, _]) layn_37 rfl rfl rfl) ?_
 refine LJ_y rfl rfl (YJ_ixOwn rfl rfl elt_54 (by omega) (by omega)) ?_
 refine LJ_storeRow (off := t * 9) (xs' := trCells (M.tris.set t Tr.gone)) (μ' := (_ :: _ :: _ :: _ :: _ :: _)) 2 rfl rfl rfl (addr_eq (by omega)) rfl tyi_37 rfl (by rw [trCells_len]; omega) rfl (row_set (t := Tr.gone) ht rfl) (by rw [trCells_len]; omega) rfl ?_
 refine LJ_nil ?_
 refine QJ_then ?_
 refine CJ_reg ?_
 refine LJ_y rfl rfl (YJ_move rfl) ?_
 refine LJ_y rfl rfl (YJ_move rfl) ?_
 refine LJ_y rfl rfl (YJ_nilCheck rfl) ?_
 refine LJ_y rfl rfl (YJ_fieldOwn rfl fld_57_2 rfl) ?_
 refine LJ_y rfl rfl (YJ_loadL rfl tyi_55 m0 rfl) ?_
 refine LJ_y rfl rfl (YJ_move rfl) ?_
 refine LJ_buildSlice (cs := [_]) rfl rfl elt_55 zer_3 rfl (by decide) (pvs := [(_, _)]) rfl rfl rfl ?_
 intro b1
 refine LJ_append 4 rfl rfl elt_55 zer_3 rfl rfl rfl rfl (Rd_own m0) rfl rfl (by omega) (by omega) (by decide) (Iv_app M.free (t : Int)) ?_
 intro A20 c20
 show LJ _ _ _ _ _ (_ :: _ :: _ :: _ :: _ :: _ :: _) _
 refine LJ_y rfl rfl (YJ_nilCheck rfl) ?_
 refine LJ_y rfl rfl (YJ_fieldOwn rfl fld_57_2 rfl) ?_
 refine LJ_store (cs' := #[_, _, _, _]) (μ' := [_, _, _, _, _, _]) 1 rfl rfl rfl rfl tyi_55 rfl (Nat.le_of_ble_eq_true rfl) rfl rfl rfl ?_
 refine LJ_nil ?_
 refine QJ_closeMesh (M.drop t) (permI [1, 1, 1, 1, 1] rfl) ⟨rfl, rfl⟩ ⟨by simp [MD.drop], rfl⟩ ⟨by simp [MD.drop], rfl⟩ ⟨rfl, rfl⟩ ?_
 exact QJ_fin (.inr rfl) (μ' := [_]) (μr := [_]) (φ' := []) (res_none rfl) (List.Perm.refl _) (fun _ h => nomatch h) ⟨rfl, rfl, rfl⟩
end Go.Proofs.Ytbanlhlggkdanaa
namespace Go.Proofs.Ytbanlhlggkdanaa
open Go.RowKit
theorem ent_35 : Enter Try.prog 35 = true := by kernel_rfl
def MD.nextN (m : MD) : Int := match m.free.getLast? with
 | some k => k
 | none => m.tris.length
def setAt (l : List Int) (v n : Int) : List Int := if 0 ≤ v then l.set v.toNat n else l
def MD.make (m : MD) (a b c : Int) : MD :=
 { m with
  tris := match m.free.getLast? with
   | some k => m.tris.set k.toNat (Tr.new a b c)
   | none => m.tris ++ [Tr.new a b c]
  free := m.free.dropLast
  ats := setAt (setAt (setAt m.ats a m.nextN) b m.nextN) c m.nextN }
theorem last_of {l : List Int} (h : 0 < l.length) : ∃ k, l.getLast? = some k ∧ (Iv l)[l.length - 1]? = some (.int .i64 k) ∧ (Iv l).take ((l.length - 1) * 1) = Iv l.dropLast ∧ k ∈ l := by
 have hne : l ≠ [] := by intro e; subst e; simp at h
 refine ⟨l.getLast hne, List.getLast?_eq_some_getLast hne, ?_, ?_, List.getLast_mem hne⟩
 ·rw [Iv, List.getElem?_map, ← List.getLast?_eq_getElem?, List.getLast?_eq_some_getLast hne]
  rfl
 ·rw [Nat.mul_one, Iv, ← List.map_take, List.dropLast_eq_take]
  rfl
theorem setAt_len (l : List Int) (v n : Int) : (setAt l v n).length = l.length := by unfold setAt; split <;> simp
theorem Iv_setAt {l : List Int} {v n : Int} {off : Nat} (h0 : 0 ≤ v) (h1 : v < l.length) (ho : off = v.toNat) : (Iv l).take off ++ ((Value.int .i64 n).cells.toList ++ (Iv l).drop (off + 1)) = Iv (setAt l v n) := by
 subst ho
 have e : setAt l v n = l.set v.toNat n := if_pos h0
 rw [e]
 have := one_set (xs := Iv l) (off := v.toNat) (v := .int .i64 n) (by rw [Iv_len]; omega)
 exact this.trans (by simp [Iv, List.map_set])
set_option maxRecDepth 100000 in
set_option maxHeartbeats 4000000 in
theorem make_c {B : Nat} {M : MD} {a b c : Int} (hlen : M.tris.length ≤ 1000000) (hfl : M.free.length ≤ 1000000) (hfr : ∀ k, k ∈ M.free → 0 ≤ k ∧ k < M.tris.length) (ha : a < M.ats.length) (hb : b < M.ats.length) (hc : c < M.ats.length) (hA : 0 < M.ats.length) : Tri Try.prog 35 [.pointer (some ⟨B, 0, none⟩), .int .i64 a, .int .i64 b, .int .i64 c] [meshR B M] [] (Ret1 (.int .i64 M.nextN) (meshR B (M.make a b c))) := by
 refine Tri_of (N := 83) Try.func35 rfl ent_35 rfl rfl ?_
 intro w0 S0 T0
 show CJ _ _ _ [(0, _), (1, _), (2, _), (3, _)] _ _
 refine CJ_open (fun hd => ?_)
 obtain ⟨P, cP, T, cT, F, cF, A, cA⟩ := hd
 show CJ _ _ _ _ [cellsR B #[.slice P M.pts.length cP, .slice T M.tris.length cT, .slice F M.free.length cF, .slice A M.ats.length cA] _, rowR _ 2 P M.pts.length cP (ptCells M.pts), rowR _ 9 T M.tris.length cT (trCells M.tris), rowR _ 1 F M.free.length cF (Iv M.free), rowR _ 1 A M.ats.length cA (Iv M.ats)] _
 refine CJ_rowSome (A := A) m4 hA (fun gA hgA hcA => ?_)
 subst hgA
 refine CJ_seq ?_
 refine CJ_reg ?_
 refine LJ_y rfl rfl (YJ_assign rfl) ?_
 refine LJ_nil ?_
 refine QJ_then ?_
 refine CJ_seq ?_
 refine CJ_reg ?_
 refine LJ_y rfl rfl (YJ_move rfl) ?_
 refine LJ_y rfl rfl (YJ_move rfl) ?_
 refine LJ_y rfl rfl (YJ_move rfl) ?_
 refine LJ_y rfl rfl (YJ_build1 (cs := [_, _, _]) lay_34 rfl rfl rfl) ?_
 refine LJ_y rfl rfl (YJ_build1 (cs := [_, _, _]) lay_34 rfl rfl rfl) ?_
 refine LJ_y rfl rfl (YJ_buildN (cs := [_, _, _, _, _, _, _, _, _]) layn_37 rfl rfl rfl) ?_
 refine LJ_alloc (cs := #[_, _, _, _, _, _, _, _, _]) rfl rfl zer_37 rfl ?_
 intro b1
 refine LJ_store (cs' := #[_, _, _, _, _, _, _, _, _]) (μ' := [_, _, _, _, _, _]) 0 rfl rfl rfl rfl tyi_37 rfl (Nat.le_of_ble_eq_true rfl) rfl (wr_all rfl) rfl ?_
 refine LJ_nil ?_
 refine QJ_then ?_
 refine CJ_seq ?_
 refine CJ_reg ?_
 refine LJ_y rfl rfl (YJ_move rfl) ?_
 refine LJ_y rfl rfl (YJ_nilCheck rfl) ?_
 refine LJ_y rfl rfl (YJ_fieldOwn rfl fld_57_1 rfl) ?_
 refine LJ_y rfl rfl (YJ_loadL rfl tyi_54 m1 rfl) ?_
 refine LJ_y rfl rfl (YJ_len rfl ulen_54 rfl) ?_
 refine LJ_y rfl rfl (YJ_assign rfl) ?_
 refine LJ_nil ?_
 refine QJ_then ?_
 refine CJ_seq ?_
 refine CJ_seq ?_
 refine CJ_reg ?_
 refine LJ_y rfl rfl (YJ_move rfl) ?_
 refine LJ_y rfl rfl (YJ_nilCheck rfl) ?_
 refine LJ_y rfl rfl (YJ_fieldOwn rfl fld_57_2 rfl) ?_
 refine LJ_y rfl rfl (YJ_loadL rfl tyi_55 m1 rfl) ?_
 refine LJ_y rfl rfl (YJ_len rfl ulen_55 rfl) ?_
 refine LJ_y rfl rfl (YJ_assign rfl) ?_
 refine LJ_nil ?_
 refine QJ_then ?_
 refine CJ_seq ?_
 refine CJ_reg ?_
 refine LJ_y rfl rfl (YJ_move rfl) ?_
 refine LJ_y rfl rfl (YJ_bin rfl rfl rfl) ?_
 refine LJ_nil ?_
 refine QJ_then ?_
 refine CJ_cond rfl (fun h31 => ?_) (fun h31 => ?_)
 ·simp only [decide_eq_true_eq] at h31
  obtain ⟨nn, hk1, hk2, hk3, hk4⟩ := last_of (l := M.free) (by omega)
  obtain ⟨hk5, hk6⟩ := hfr nn hk4
  refine CJ_rowSome (A := F) m4 (by omega) (fun gF hF hcF => ?_)
  subst hF
  refine CJ_rowSome (A := T) m3 (by omega) (fun gT hT hcT => ?_)
  subst hT
  refine CJ_seq ?_
  refine CJ_regM mix (by kernel_rfl) (fun _ _ _ _ _ h => h) [[], [19], [], [], [], []] ?_
  refine BJ_y 0 rfl (by kernel_rfl) (by kernel_rfl) (by kernel_rfl) rfl rfl (YJ_move rfl) ?_
  refine BJ_y 1 rfl (by kernel_rfl) (by kernel_rfl) (by kernel_rfl) rfl rfl (YJ_move rfl) ?_
  refine BJ_y 2 rfl (by kernel_rfl) (by kernel_rfl) (by kernel_rfl) rfl rfl (YJ_nilCheck rfl) ?_
  refine BJ_y 3 rfl (by kernel_rfl) (by kernel_rfl) (by kernel_rfl) rfl rfl (YJ_fieldOwn rfl fld_57_2 rfl) ?_
  refine BJ_l 4 1 rfl (by kernel_rfl) (by kernel_rfl) (by kernel_rfl) rfl (by kernel_rfl) m1 rfl rfl (YJ_loadL rfl tyi_55 m0 rfl) ?_
  refine BJ_y 5 rfl (by kernel_rfl) (by kernel_rfl) (by kernel_rfl) rfl rfl (YJ_move rfl) ?_
  refine BJ_y 6 rfl (by kernel_rfl) (by kernel_rfl) (by kernel_rfl) rfl rfl (YJ_bin rfl rfl (iop_sub (by omega))) ?_
  refine BJ_y 7 rfl (by kernel_rfl) (by kernel_rfl) (by kernel_rfl) rfl rfl (YJ_ixOwn rfl rfl elt_55 (by omega) (by omega)) ?_
  refine BJ_l 8 4 rfl (by kernel_rfl) (by kernel_rfl) (by kernel_rfl) rfl (by kernel_rfl) m4 rfl rfl (YJ_row (.head _) (YJ_loadFactP (A := some ⟨gF, 0, none⟩) (j := M.free.length - 1) rfl (addr_eq (by omega)) tyi_3 (.head _) hk2)) ?_
  refine BJ_y 9 rfl (by kernel_rfl) (by kernel_rfl) (by kernel_rfl) rfl rfl (YJ_move rfl) ?_
  refine BJ_y 10 rfl (by kernel_rfl) (by kernel_rfl) (by kernel_rfl) rfl rfl (YJ_nilCheck rfl) ?_
  refine BJ_y 11 rfl (by kernel_rfl) (by kernel_rfl) (by kernel_rfl) rfl rfl (YJ_fieldOwn rfl fld_57_2 rfl) ?_
  refine BJ_l 12 1 rfl (by kernel_rfl) (by kernel_rfl) (by kernel_rfl) rfl (by kernel_rfl) m1 rfl rfl (YJ_loadL rfl tyi_55 m0 rfl) ?_
  refine BJ_y 13 rfl (by kernel_rfl) (by kernel_rfl) (by kernel_rfl) rfl rfl (YJ_move rfl) ?_
  refine BJ_y 14 rfl (by kernel_rfl) (by kernel_rfl) (by kernel_rfl) rfl rfl (YJ_bin rfl rfl (iop_sub (by omega))) ?_
  refine BJ_y 15 rfl (by kernel_rfl) (by kernel_rfl) (by kernel_rfl) rfl rfl (YJ_sliceH (m := M.free.length - 1) rfl rfl elt_55 (by omega) (by omega)) ?_
  refine BJ_y 16 rfl (by kernel_rfl) (by kernel_rfl) (by kernel_rfl) rfl rfl (YJ_assign rfl) ?_
  refine BJ_y 17 rfl (by kernel_rfl) (by kernel_rfl) (by kernel_rfl) rfl rfl (YJ_nilCheck rfl) ?_
  refine BJ_y 18 rfl (by kernel_rfl) (by kernel_rfl) (by kernel_rfl) rfl rfl (YJ_fieldOwn rfl fld_57_2 rfl) ?_
  refine BJ_store (cs' := #[_, _, _, _]) (μ' := [_, _, _, _, _, _]) 19 1 rfl (by kernel_rfl) rfl rfl rfl rfl tyi_55 rfl (Nat.le_of_ble_eq_true rfl) rfl rfl rfl (And.intro (.inr m0) (And.intro (.inl rfl) (And.intro (.inr m2) (And.intro (.inr m3) (And.intro (.inr m4) (And.intro (.inr m5) (trivial))))))) ?_
  refine BJ_done (by kernel_rfl) ?_
  refine QJ_then ?_
  refine CJ_turnK (k := 4) (r' := rowR 3 1 (some ⟨gF, 0, none⟩) (M.free.length - 1) cF (Iv M.free.dropLast)) rfl (fun w S q => hk3 ▸ rowR.short (by omega) q) ?_
  refine CJ_regD mix (by kernel_rfl) (fun _ _ _ _ _ h => h) (selR [0, 1, 2, 4, 5] _) _ (selR_sub _ _) (fun _ h => h) ?_
  refine AJ_y 0 rfl (by kernel_rfl) (by kernel_rfl) rfl rfl (YJ_move rfl) ?_
  refine AJ_y 1 rfl (by kernel_rfl) (by kernel_rfl) rfl rfl (YJ_nilCheck rfl) ?_
  refine AJ_y 2 rfl (by kernel_rfl) (by kernel_rfl) rfl rfl (YJ_fieldOwn rfl fld_57_1 rfl) ?_
  refine AJ_y 3 rfl (by kernel_rfl) (by kernel_rfl) rfl rfl (YJ_loadL rfl tyi_54 m1 rfl) ?_
  refine AJ_y 4 rfl (by kernel_rfl) (by kernel_rfl) rfl rfl (YJ_move rfl) ?_
  refine AJ_y 5 rfl (by kernel_rfl) (by kernel_rfl) rfl rfl (YJ_loadN (vs := [_, _, _, _, _, _, _, _, _]) rfl tyi_37 m0 rfl rfl) ?_
  refine AJ_y 6 rfl (by kernel_rfl) (by kernel_rfl) rfl rfl (YJ_ixOwn rfl rfl elt_54 (by omega) (by omega)) ?_
  refine AJ_storeRow (off := nn.toNat * 9) (xs' := trCells (M.tris.set nn.toNat (Tr.new a b c))) (μ' := (_ :: _ :: _ :: _ :: _ :: _ :: _)) 7 3 rfl (by kernel_rfl) rfl rfl rfl (addr_eq (by omega)) rfl tyi_37 rfl (by rw [trCells_len]; omega) rfl (row_set (t := Tr.new a b c) (by omega) rfl) (by rw [trCells_len]; omega) rfl (fun _ => AllIn.sub (And.intro m0 (And.intro m1 (And.intro m2 (And.intro m4 (And.intro m5 (trivial))))))) ?_
  refine AJ_done (by kernel_rfl) ?_
  refine QJ_then ?_
  refine CJ_seq ?_
  refine CJ_seq ?_
  refine CJ_reg ?_
  refine LJ_y rfl rfl (YJ_fieldOwn rfl fld_37_0 rfl) ?_
  refine LJ_y rfl rfl (YJ_loadN (vs := [_, _, _]) rfl tyi_34 m0 rfl rfl) ?_
  refine LJ_y rfl rfl (YJ_move rfl) ?_
  refine LJ_nil ?_
  refine QJ_then ?_
  refine CJ_block ?_
  refine CJ_loopN 4 ?_
  refine CN_succ ?_
  refine CJ_seq ?_
  refine CJ_reg ?_
  refine LJ_y rfl rfl (YJ_bin rfl rfl rfl) ?_
  refine LJ_nil ?_
  refine QJ_then ?_
  refine CJ_seq ?_
  refine CJ_condT rfl ?_
  refine CJ_skip ?_
  refine QJ_then ?_
  refine CJ_seq ?_
  refine CJ_block ?_
  refine CJ_seq ?_
  refine CJ_reg ?_
  refine LJ_y rfl rfl (YJ_index1 rfl rfl arrt_34 tyi_3 (by omega) (by omega) rfl) ?_
  refine LJ_y rfl rfl (YJ_assign rfl) ?_
  refine LJ_nil ?_
  refine QJ_then ?_
  refine CJ_seq ?_
  refine CJ_reg ?_
  refine LJ_y rfl rfl (YJ_move rfl) ?_
  refine LJ_y rfl rfl (YJ_bin rfl rfl rfl) ?_
  refine LJ_nil ?_
  refine QJ_then ?_
  refine CJ_cond rfl (fun h73 => ?_) (fun h73 => ?_)
  ·simp only [decide_eq_true_eq] at h73
   refine CJ_reg ?_
   refine LJ_y rfl rfl (YJ_move rfl) ?_
   refine LJ_y rfl rfl (YJ_nilCheck rfl) ?_
   refine LJ_y rfl rfl (YJ_fieldOwn rfl fld_57_3 rfl) ?_
   refine LJ_y rfl rfl (YJ_loadL rfl tyi_55 m1 rfl) ?_
   refine LJ_y rfl rfl (YJ_move rfl) ?_
   refine LJ_y rfl rfl (YJ_move rfl) ?_
   refine LJ_val (v := .int .i64 nn) (by first | rfl | rw [hnn]) ?_
   refine LJ_y rfl rfl (YJ_ixOwn rfl rfl elt_55 (by omega) (by omega)) ?_
   refine LJ_storeRow (off := a.toNat) (xs' := Iv (setAt M.ats a nn)) (μ' := (_ :: _ :: _ :: _ :: _ :: _ :: _)) 5 rfl rfl rfl (addr_eq (by omega)) rfl tyi_3 rfl (by simp only [Iv_len, setAt_len]; omega) rfl (Iv_setAt (by omega) (by first | omega | (simp only [setAt_len]; omega)) rfl) (by simp only [Iv_len, setAt_len]; omega) rfl ?_
   refine LJ_nil ?_
   refine QJ_in_normal ?_
   refine QJ_then ?_
   refine CJ_reg ?_
   refine LJ_y rfl rfl (YJ_bin rfl rfl (iop_add (by omega))) ?_
   refine LJ_y rfl rfl (YJ_move rfl) ?_
   refine LJ_nil ?_
   refine QJ_thenN ?_
   refine CN_succ ?_
   refine CJ_seq ?_
   refine CJ_reg ?_
   refine LJ_y rfl rfl (YJ_bin rfl rfl rfl) ?_
   refine LJ_nil ?_
   refine QJ_then ?_
   refine CJ_seq ?_
   refine CJ_condT rfl ?_
   refine CJ_skip ?_
   refine QJ_then ?_
   refine CJ_seq ?_
   refine CJ_block ?_
   refine CJ_seq ?_
   refine CJ_reg ?_
   refine LJ_y rfl rfl (YJ_index1 rfl rfl arrt_34 tyi_3 (by omega) (by omega) rfl) ?_
   refine LJ_y rfl rfl (YJ_assign rfl) ?_
   refine LJ_nil ?_
   refine QJ_then ?_
   refine CJ_seq ?_
   refine CJ_reg ?_
   refine LJ_y rfl rfl (YJ_move rfl) ?_
   refine LJ_y rfl rfl (YJ_bin rfl rfl rfl) ?_
   refine LJ_nil ?_
   refine QJ_then ?_
   refine CJ_cond rfl (fun h73 => ?_) (fun h73 => ?_)
   ·simp only [decide_eq_true_eq] at h73
    refine CJ_reg ?_
    refine LJ_y rfl rfl (YJ_move rfl) ?_
    refine LJ_y rfl rfl (YJ_nilCheck rfl) ?_
    refine LJ_y rfl rfl (YJ_fieldOwn rfl fld_57_3 rfl) ?_
    refine LJ_y rfl rfl (YJ_loadL rfl tyi_55 m1 rfl) ?_
    refine LJ_y rfl rfl (YJ_move rfl) ?_
    refine LJ_y rfl rfl (YJ_move rfl) ?_
    refine LJ_val (v := .int .i64 nn) (by first | rfl | rw [hnn]) ?_
    refine LJ_y rfl rfl (YJ_ixOwn rfl rfl elt_55 (by omega) (by omega)) ?_
    refine LJ_storeRow (off := b.toNat) (xs' := Iv (setAt (setAt M.ats a nn) b nn)) (μ' := (_ :: _ :: _ :: _ :: _ :: _ :: _)) 5 rfl rfl rfl (addr_eq (by omega)) rfl tyi_3 rfl (by simp only [Iv_len, setAt_len]; omega) rfl (Iv_setAt (by omega) (by first | omega | (simp only [setAt_len]; omega)) rfl) (by simp only [Iv_len, setAt_len]; omega) rfl ?_
    refine LJ_nil ?_
    refine QJ_in_normal ?_
    refine QJ_then ?_
    refine CJ_reg ?_
    refine LJ_y rfl rfl (YJ_bin rfl rfl (iop_add (by omega))) ?_
    refine LJ_y rfl rfl (YJ_move rfl) ?_
    refine LJ_nil ?_
    refine QJ_thenN ?_
    refine CN_succ ?_
    refine CJ_seq ?_
    refine CJ_reg ?_
    refine LJ_y rfl rfl (YJ_bin rfl rfl rfl) ?_
    refine LJ_nil ?_
    refine QJ_then ?_
    refine CJ_seq ?_
    refine CJ_condT rfl ?_
    refine CJ_skip ?_
    refine QJ_then ?_
    refine CJ_seq ?_
    refine CJ_block ?_
    refine CJ_seq ?_
    refine CJ_reg ?_
    refine LJ_y rfl rfl (YJ_index1 rfl rfl arrt_34 tyi_3 (by omega) (by omega) rfl) ?_
    refine LJ_y rfl rfl (YJ_assign rfl) ?_
    refine LJ_nil ?_
    refine QJ_then ?_
    refine CJ_seq ?_
    refine CJ_reg ?_
    refine LJ_y rfl rfl (YJ_move rfl) ?_
    refine LJ_y rfl rfl (YJ_bin rfl rfl rfl) ?_
    refine LJ_nil ?_
    refine QJ_then ?_
    refine CJ_cond rfl (fun h73 => ?_) (fun h73 => ?_)
    ·simp only [decide_eq_true_eq] at h73
     refine CJ_reg ?_
     refine LJ_y rfl rfl (YJ_move rfl) ?_
     refine LJ_y rfl rfl (YJ_nilCheck rfl) ?_
     refine LJ_y rfl rfl (YJ_fieldOwn rfl fld_57_3 rfl) ?_
     refine LJ_y rfl rfl (YJ_loadL rfl tyi_55 m1 rfl) ?_
     refine LJ_y rfl rfl (YJ_move rfl) ?_
     refine LJ_y rfl rfl (YJ_move rfl) ?_
     refine LJ_val (v := .int .i64 nn) (by first | rfl | rw [hnn]) ?_
     refine LJ_y rfl rfl (YJ_ixOwn rfl rfl elt_55 (by omega) (by omega)) ?_
     refine LJ_storeRow (off := c.toNat) (xs' := Iv (setAt (setAt (setAt M.ats a nn) b nn) c nn)) (μ' := (_ :: _ :: _ :: _ :: _ :: _ :: _)) 5 rfl rfl rfl (addr_eq (by omega)) rfl tyi_3 rfl (by simp only [Iv_len, setAt_len]; omega) rfl (Iv_setAt (by omega) (by first | omega | (simp only [setAt_len]; omega)) rfl) (by simp only [Iv_len, setAt_len]; omega) rfl ?_
     refine LJ_nil ?_
     refine QJ_in_normal ?_
     refine QJ_then ?_
     refine CJ_reg ?_
     refine LJ_y rfl rfl (YJ_bin rfl rfl (iop_add (by omega))) ?_
     refine LJ_y rfl rfl (YJ_move rfl) ?_
     refine LJ_nil ?_
     refine QJ_thenN ?_
     refine CN_succ ?_
     refine CJ_seq ?_
     refine CJ_reg ?_
     refine LJ_y rfl rfl (YJ_bin rfl rfl rfl) ?_
     refine LJ_nil ?_
     refine QJ_then ?_
     refine CJ_seq ?_
     refine CJ_condF rfl ?_
     refine CJ_exit ?_
     refine QJ_then_exit ?_
     refine QJ_then_exit ?_
     refine QJ_in_exit ?_
     refine QJ_then ?_
     refine CJ_seq ?_
     refine CJ_reg ?_
     refine LJ_y rfl rfl (YJ_move rfl) ?_
     refine LJ_y rfl rfl (YJ_assign rfl) ?_
     refine LJ_nil ?_
     refine QJ_then ?_
     refine CJ_ret ?_
     refine QJ_closeMesh (M.make a b c) (permI [1, 1, 1, 1, 1] rfl) ⟨rfl, rfl⟩ ⟨by simp [MD.make, hk1], by simp [MD.make, hk1]⟩ ⟨by simp [MD.make], rfl⟩ ⟨by simp [MD.make, setAt_len], by simp [MD.make, MD.nextN, hk1]⟩ ?_
     exact QJ_fin (.inl rfl) (μ' := [_]) (μr := [_]) (φ' := []) (res_tmp rfl rfl) (List.Perm.refl _) (fun _ h => nomatch h) ⟨congrArg (Value.int .i64) (by simp [MD.nextN, hk1]), rfl, rfl⟩
    ·simp only [decide_eq_false_iff_not] at h73
     refine CJ_turnK (k := 5) (r' := rowR 3 1 (some ⟨gA, 0, none⟩) M.ats.length cA (Iv (setAt (setAt (setAt M.ats a nn) b nn) c nn))) rfl (fun w S q => by rw [show setAt (setAt (setAt M.ats a nn) b nn) c nn = setAt (setAt M.ats a nn) b nn from if_neg (by omega)]; exact q) ?_
     refine CJ_skip ?_
     refine QJ_in_normal ?_
     refine QJ_then ?_
     refine CJ_reg ?_
     refine LJ_y rfl rfl (YJ_bin rfl rfl (iop_add (by omega))) ?_
     refine LJ_y rfl rfl (YJ_move rfl) ?_
     refine LJ_nil ?_
     refine QJ_thenN ?_
     refine CN_succ ?_
     refine CJ_seq ?_
     refine CJ_reg ?_
     refine LJ_y rfl rfl (YJ_bin rfl rfl rfl) ?_
     refine LJ_nil ?_
     refine QJ_then ?_
     refine CJ_seq ?_
     refine CJ_condF rfl ?_
     refine CJ_exit ?_
     refine QJ_then_exit ?_
     refine QJ_then_exit ?_
     refine QJ_in_exit ?_
     refine QJ_then ?_
     refine CJ_seq ?_
     refine CJ_reg ?_
     refine LJ_y rfl rfl (YJ_move rfl) ?_
     refine LJ_y rfl rfl (YJ_assign rfl) ?_
     refine LJ_nil ?_
     refine QJ_then ?_
     refine CJ_ret ?_
     refine QJ_closeMesh (M.make a b c) (permI [1, 1, 1, 1, 1] rfl) ⟨rfl, rfl⟩ ⟨by simp [MD.make, hk1], by simp [MD.make, hk1]⟩ ⟨by simp [MD.make], rfl⟩ ⟨by simp [MD.make, setAt_len], by simp [MD.make, MD.nextN, hk1]⟩ ?_
     exact QJ_fin (.inl rfl) (μ' := [_]) (μr := [_]) (φ' := []) (res_tmp rfl rfl) (List.Perm.refl _) (fun _ h => nomatch h) ⟨congrArg (Value.int .i64) (by simp [MD.nextN, hk1]), rfl, rfl⟩
   ·simp only [decide_eq_false_iff_not] at h73
    refine CJ_turnK (k := 5) (r' := rowR 3 1 (some ⟨gA, 0, none⟩) M.ats.length cA (Iv (setAt (setAt M.ats a nn) b nn))) rfl (fun w S q => by rw [show setAt (setAt M.ats a nn) b nn = setAt M.ats a nn from if_neg (by omega)]; exact q) ?_
    refine CJ_skip ?_
    refine QJ_in_normal ?_
    refine QJ_then ?_
    refine CJ_reg ?_
    refine LJ_y rfl rfl (YJ_bin rfl rfl (iop_add (by omega))) ?_
    refine LJ_y rfl rfl (YJ_move rfl) ?_
    refine LJ_nil ?_
    refine QJ_thenN ?_
    refine CN_succ ?_
    refine CJ_seq ?_
    refine CJ_reg ?_
    refine LJ_y rfl rfl (YJ_bin rfl rfl rfl) ?_
    refine LJ_nil ?_
    refine QJ_then ?_
    refine CJ_seq ?_
    refine CJ_condT rfl ?_
    refine CJ_skip ?_
    refine QJ_then ?_
    refine CJ_seq ?_
    refine CJ_block ?_
    refine CJ_seq ?_
    refine CJ_reg ?_
    refine LJ_y rfl rfl (YJ_index1 rfl rfl arrt_34 tyi_3 (by omega) (by omega) rfl) ?_
    refine LJ_y rfl rfl (YJ_assign rfl) ?_
    refine LJ_nil ?_
    refine QJ_then ?_
    refine CJ_seq ?_
    refine CJ_reg ?_
    refine LJ_y rfl rfl (YJ_move rfl) ?_
    refine LJ_y rfl rfl (YJ_bin rfl rfl rfl) ?_
    refine LJ_nil ?_
    refine QJ_then ?_
    refine CJ_cond rfl (fun h73 => ?_) (fun h73 => ?_)
    ·simp only [decide_eq_true_eq] at h73
     refine CJ_reg ?_
     refine LJ_y rfl rfl (YJ_move rfl) ?_
     refine LJ_y rfl rfl (YJ_nilCheck rfl) ?_
     refine LJ_y rfl rfl (YJ_fieldOwn rfl fld_57_3 rfl) ?_
     refine LJ_y rfl rfl (YJ_loadL rfl tyi_55 m1 rfl) ?_
     refine LJ_y rfl rfl (YJ_move rfl) ?_
     refine LJ_y rfl rfl (YJ_move rfl) ?_
     refine LJ_val (v := .int .i64 nn) (by first | rfl | rw [hnn]) ?_
     refine LJ_y rfl rfl (YJ_ixOwn rfl rfl elt_55 (by omega) (by omega)) ?_
     refine LJ_storeRow (off := c.toNat) (xs' := Iv (setAt (setAt (setAt M.ats a nn) b nn) c nn)) (μ' := (_ :: _ :: _ :: _ :: _ :: _ :: _)) 5 rfl rfl rfl (addr_eq (by omega)) rfl tyi_3 rfl (by simp only [Iv_len, setAt_len]; omega) rfl (Iv_setAt (by omega) (by first | omega | (simp only [setAt_len]; omega)) rfl) (by simp only [Iv_len, setAt_len]; omega) rfl ?_
     refine LJ_nil ?_
     refine QJ_in_normal ?_
     refine QJ_then ?_
     refine CJ_reg ?_
     refine LJ_y rfl rfl (YJ_bin rfl rfl (iop_add (by omega))) ?_
     refine LJ_y rfl rfl (YJ_move rfl) ?_
     refine LJ_nil ?_
     refine QJ_thenN ?_
     refine CN_succ ?_
     refine CJ_seq ?_
     refine CJ_reg ?_
     refine LJ_y rfl rfl (YJ_bin rfl rfl rfl) ?_
     refine LJ_nil ?_
     refine QJ_then ?_
     refine CJ_seq ?_
     refine CJ_condF rfl ?_
     refine CJ_exit ?_
     refine QJ_then_exit ?_
     refine QJ_then_exit ?_
     refine QJ_in_exit ?_
     refine QJ_then ?_
     refine CJ_seq ?_
     refine CJ_reg ?_
     refine LJ_y rfl rfl (YJ_move rfl) ?_
     refine LJ_y rfl rfl (YJ_assign rfl) ?_
     refine LJ_nil ?_
     refine QJ_then ?_
     refine CJ_ret ?_
     refine QJ_closeMesh (M.make a b c) (permI [1, 1, 1, 1, 1] rfl) ⟨rfl, rfl⟩ ⟨by simp [MD.make, hk1], by simp [MD.make, hk1]⟩ ⟨by simp [MD.make], rfl⟩ ⟨by simp [MD.make, setAt_len], by simp [MD.make, MD.nextN, hk1]⟩ ?_
     exact QJ_fin (.inl rfl) (μ' := [_]) (μr := [_]) (φ' := []) (res_tmp rfl rfl) (List.Perm.refl _) (fun _ h => nomatch h) ⟨congrArg (Value.int .i64) (by simp [MD.nextN, hk1]), rfl, rfl⟩
    ·simp only [decide_eq_false_iff_not] at h73
     refine CJ_turnK (k := 5) (r' := rowR 3 1 (some ⟨gA, 0, none⟩) M.ats.length cA (Iv (setAt (setAt (setAt M.ats a nn) b nn) c nn))) rfl (fun w S q => by rw [show setAt (setAt (setAt M.ats a nn) b nn) c nn = setAt (setAt M.ats a nn) b nn from if_neg (by omega)]; exact q) ?_
     refine CJ_skip ?_
     refine QJ_in_normal ?_
     refine QJ_then ?_
     refine CJ_reg ?_
     refine LJ_y rfl rfl (YJ_bin rfl rfl (iop_add (by omega))) ?_
     refine LJ_y rfl rfl (YJ_move rfl) ?_
     refine LJ_nil ?_
     refine QJ_thenN ?_
     refine CN_succ ?_
     refine CJ_seq ?_
     refine CJ_reg ?_
     refine LJ_y rfl rfl (YJ_bin rfl rfl rfl) ?_
     refine LJ_nil ?_
     refine QJ_then ?_
     refine CJ_seq ?_
     refine CJ_condF rfl ?_
     refine CJ_exit ?_
     refine QJ_then_exit ?_
     refine QJ_then_exit ?_
     refine QJ_in_exit ?_
     refine QJ_then ?_
     refine CJ_seq ?_
     refine CJ_reg ?_
     refine LJ_y rfl rfl (YJ_move rfl) ?_
     refine LJ_y rfl rfl (YJ_assign rfl) ?_
     refine LJ_nil ?_
     refine QJ_then ?_
     refine CJ_ret ?_
     refine QJ_closeMesh (M.make a b c) (permI [1, 1, 1, 1, 1] rfl) ⟨rfl, rfl⟩ ⟨by simp [MD.make, hk1], by simp [MD.make, hk1]⟩ ⟨by simp [MD.make], rfl⟩ ⟨by simp [MD.make, setAt_len], by simp [MD.make, MD.nextN, hk1]⟩ ?_
     exact QJ_fin (.inl rfl) (μ' := [_]) (μr := [_]) (φ' := []) (res_tmp rfl rfl) (List.Perm.refl _) (fun _ h => nomatch h) ⟨congrArg (Value.int .i64) (by simp [MD.nextN, hk1]), rfl, rfl⟩
  ·simp only [decide_eq_false_iff_not] at h73
   refine CJ_turnK (k := 5) (r' := rowR 3 1 (some ⟨gA, 0, none⟩) M.ats.length cA (Iv (setAt M.ats a nn))) rfl (fun w S q => by rw [show setAt M.ats a nn = M.ats from if_neg (by omega)]; exact q) ?_
   refine CJ_skip ?_
   refine QJ_in_normal ?_
   refine QJ_then ?_
   refine CJ_reg ?_
   refine LJ_y rfl rfl (YJ_bin rfl rfl (iop_add (by omega))) ?_
   refine LJ_y rfl rfl (YJ_move rfl) ?_
   refine LJ_nil ?_
   refine QJ_thenN ?_
   refine CN_succ ?_
   refine CJ_seq ?_
   refine CJ_reg ?_
   refine LJ_y rfl rfl (YJ_bin rfl rfl rfl) ?_
   refine LJ_nil ?_
   refine QJ_then ?_
   refine CJ_seq ?_
   refine CJ_condT rfl ?_
   refine CJ_skip ?_
   refine QJ_then ?_
   refine CJ_seq ?_
   refine CJ_block ?_
   refine CJ_seq ?_
   refine CJ_reg ?_
   refine LJ_y rfl rfl (YJ_index1 rfl rfl arrt_34 tyi_3 (by omega) (by omega) rfl) ?_
   refine LJ_y rfl rfl (YJ_assign rfl) ?_
   refine LJ_nil ?_
   refine QJ_then ?_
   refine CJ_seq ?_
   refine CJ_reg ?_
   refine LJ_y rfl rfl (YJ_move rfl) ?_
   refine LJ_y rfl rfl (YJ_bin rfl rfl rfl) ?_
   refine LJ_nil ?_
   refine QJ_then ?_
   refine CJ_cond rfl (fun h73 => ?_) (fun h73 => ?_)
   ·simp only [decide_eq_true_eq] at h73
    refine CJ_reg ?_
    refine LJ_y rfl rfl (YJ_move rfl) ?_
    refine LJ_y rfl rfl (YJ_nilCheck rfl) ?_
    refine LJ_y rfl rfl (YJ_fieldOwn rfl fld_57_3 rfl) ?_
    refine LJ_y rfl rfl (YJ_loadL rfl tyi_55 m1 rfl) ?_
    refine LJ_y rfl rfl (YJ_move rfl) ?_
    refine LJ_y rfl rfl (YJ_move rfl) ?_
    refine LJ_val (v := .int .i64 nn) (by first | rfl | rw [hnn]) ?_
    refine LJ_y rfl rfl (YJ_ixOwn rfl rfl elt_55 (by omega) (by omega)) ?_
    refine LJ_storeRow (off := b.toNat) (xs' := Iv (setAt (setAt M.ats a nn) b nn)) (μ' := (_ :: _ :: _ :: _ :: _ :: _ :: _)) 5 rfl rfl rfl (addr_eq (by omega)) rfl tyi_3 rfl (by simp only [Iv_len, setAt_len]; omega) rfl (Iv_setAt (by omega) (by first | omega | (simp only [setAt_len]; omega)) rfl) (by simp only [Iv_len, setAt_len]; omega) rfl ?_
    refine LJ_nil ?_
    refine QJ_in_normal ?_
    refine QJ_then ?_
    refine CJ_reg ?_
    refine LJ_y rfl rfl (YJ_bin rfl rfl (iop_add (by omega))) ?_
    refine LJ_y rfl rfl (YJ_move rfl) ?_
    refine LJ_nil ?_
    refine QJ_thenN ?_
    refine CN_succ ?_
    refine CJ_seq ?_
    refine CJ_reg ?_
    refine LJ_y rfl rfl (YJ_bin rfl rfl rfl) ?_
    refine LJ_nil ?_
    refine QJ_then ?_
    refine CJ_seq ?_
    refine CJ_condT rfl ?_
    refine CJ_skip ?_
    refine QJ_then ?_
    refine CJ_seq ?_
    refine CJ_block ?_
    refine CJ_seq ?_
    refine CJ_reg ?_
    refine LJ_y rfl rfl (YJ_index1 rfl rfl arrt_34 tyi_3 (by omega) (by omega) rfl) ?_
    refine LJ_y rfl rfl (YJ_assign rfl) ?_
    refine LJ_nil ?_
    refine QJ_then ?_
    refine CJ_seq ?_
    refine CJ_reg ?_
    refine LJ_y rfl rfl (YJ_move rfl) ?_
    refine LJ_y rfl rfl (YJ_bin rfl rfl rfl) ?_
    refine LJ_nil ?_
    refine QJ_then ?_
    refine CJ_cond rfl (fun h73 => ?_) (fun h73 => ?_)
    ·simp only [decide_eq_true_eq] at h73
     refine CJ_reg ?_
     refine LJ_y rfl rfl (YJ_move rfl) ?_
     refine LJ_y rfl rfl (YJ_nilCheck rfl) ?_
     refine LJ_y rfl rfl (YJ_fieldOwn rfl fld_57_3 rfl) ?_
     refine LJ_y rfl rfl (YJ_loadL rfl tyi_55 m1 rfl) ?_
     refine LJ_y rfl rfl (YJ_move rfl) ?_
     refine LJ_y rfl rfl (YJ_move rfl) ?_
     refine LJ_val (v := .int .i64 nn) (by first | rfl | rw [hnn]) ?_
     refine LJ_y rfl rfl (YJ_ixOwn rfl rfl elt_55 (by omega) (by omega)) ?_
     refine LJ_storeRow (off := c.toNat) (xs' := Iv (setAt (setAt (setAt M.ats a nn) b nn) c nn)) (μ' := (_ :: _ :: _ :: _ :: _ :: _ :: _)) 5 rfl rfl rfl (addr_eq (by omega)) rfl tyi_3 rfl (by simp only [Iv_len, setAt_len]; omega) rfl (Iv_setAt (by omega) (by first | omega | (simp only [setAt_len]; omega)) rfl) (by simp only [Iv_len, setAt_len]; omega) rfl ?_
     refine LJ_nil ?_
     refine QJ_in_normal ?_
     refine QJ_then ?_
     refine CJ_reg ?_
     refine LJ_y rfl rfl (YJ_bin rfl rfl (iop_add (by omega))) ?_
     refine LJ_y rfl rfl (YJ_move rfl) ?_
     refine LJ_nil ?_
     refine QJ_thenN ?_
     refine CN_succ ?_
     refine CJ_seq ?_
     refine CJ_reg ?_
     refine LJ_y rfl rfl (YJ_bin rfl rfl rfl) ?_
     refine LJ_nil ?_
     refine QJ_then ?_
     refine CJ_seq ?_
     refine CJ_condF rfl ?_
     refine CJ_exit ?_
     refine QJ_then_exit ?_
     refine QJ_then_exit ?_
     refine QJ_in_exit ?_
     refine QJ_then ?_
     refine CJ_seq ?_
     refine CJ_reg ?_
     refine LJ_y rfl rfl (YJ_move rfl) ?_
     refine LJ_y rfl rfl (YJ_assign rfl) ?_
     refine LJ_nil ?_
     refine QJ_then ?_
     refine CJ_ret ?_
     refine QJ_closeMesh (M.make a b c) (permI [1, 1, 1, 1, 1] rfl) ⟨rfl, rfl⟩ ⟨by simp [MD.make, hk1], by simp [MD.make, hk1]⟩ ⟨by simp [MD.make], rfl⟩ ⟨by simp [MD.make, setAt_len], by simp [MD.make, MD.nextN, hk1]⟩ ?_
     exact QJ_fin (.inl rfl) (μ' := [_]) (μr := [_]) (φ' := []) (res_tmp rfl rfl) (List.Perm.refl _) (fun _ h => nomatch h) ⟨congrArg (Value.int .i64) (by simp [MD.nextN, hk1]), rfl, rfl⟩
    ·simp only [decide_eq_false_iff_not] at h73
     refine CJ_turnK (k := 5) (r' := rowR 3 1 (some ⟨gA, 0, none⟩) M.ats.length cA (Iv (setAt (setAt (setAt M.ats a nn) b nn) c nn))) rfl (fun w S q => by rw [show setAt (setAt (setAt M.ats a nn) b nn) c nn = setAt (setAt M.ats a nn) b nn from if_neg (by omega)]; exact q) ?_
     refine CJ_skip ?_
     refine QJ_in_normal ?_
     refine QJ_then ?_
     refine CJ_reg ?_
     refine LJ_y rfl rfl (YJ_bin rfl rfl (iop_add (by omega))) ?_
     refine LJ_y rfl rfl (YJ_move rfl) ?_
     refine LJ_nil ?_
     refine QJ_thenN ?_
     refine CN_succ ?_
     refine CJ_seq ?_
     refine CJ_reg ?_
     refine LJ_y rfl rfl (YJ_bin rfl rfl rfl) ?_
     refine LJ_nil ?_
     refine QJ_then ?_
     refine CJ_seq ?_
     refine CJ_condF rfl ?_
     refine CJ_exit ?_
     refine QJ_then_exit ?_
     refine QJ_then_exit ?_
     refine QJ_in_exit ?_
     refine QJ_then ?_
     refine CJ_seq ?_
     refine CJ_reg ?_
     refine LJ_y rfl rfl (YJ_move rfl) ?_
     refine LJ_y rfl rfl (YJ_assign rfl) ?_
     refine LJ_nil ?_
     refine QJ_then ?_
     refine CJ_ret ?_
     refine QJ_closeMesh (M.make a b c) (permI [1, 1, 1, 1, 1] rfl) ⟨rfl, rfl⟩ ⟨by simp [MD.make, hk1], by simp [MD.make, hk1]⟩ ⟨by simp [MD.make], rfl⟩ ⟨by simp [MD.make, setAt_len], by simp [MD.make, MD.nextN, hk1]⟩ ?_
     exact QJ_fin (.inl rfl) (μ' := [_]) (μr := [_]) (φ' := []) (res_tmp rfl rfl) (List.Perm.refl _) (fun _ h => nomatch h) ⟨congrArg (Value.int .i64) (by simp [MD.nextN, hk1]), rfl, rfl⟩
   ·simp only [decide_eq_false_iff_not] at h73
    refine CJ_turnK (k := 5) (r' := rowR 3 1 (some ⟨gA, 0, none⟩) M.ats.length cA (Iv (setAt (setAt M.ats a nn) b nn))) rfl (fun w S q => by rw [show setAt (setAt M.ats a nn) b nn = setAt M.ats a nn from if_neg (by omega)]; exact q) ?_
    refine CJ_skip ?_
    refine QJ_in_normal ?_
    refine QJ_then ?_
    refine CJ_reg ?_
    refine LJ_y rfl rfl (YJ_bin rfl rfl (iop_add (by omega))) ?_
    refine LJ_y rfl rfl (YJ_move rfl) ?_
    refine LJ_nil ?_
    refine QJ_thenN ?_
    refine CN_succ ?_
    refine CJ_seq ?_
    refine CJ_reg ?_
    refine LJ_y rfl rfl (YJ_bin rfl rfl rfl) ?_
    refine LJ_nil ?_
    refine QJ_then ?_
    refine CJ_seq ?_
    refine CJ_condT rfl ?_
    refine CJ_skip ?_
    refine QJ_then ?_
    refine CJ_seq ?_
    refine CJ_block ?_
    refine CJ_seq ?_
    refine CJ_reg ?_
    refine LJ_y rfl rfl (YJ_index1 rfl rfl arrt_34 tyi_3 (by omega) (by omega) rfl) ?_
    refine LJ_y rfl rfl (YJ_assign rfl) ?_
    refine LJ_nil ?_
    refine QJ_then ?_
    refine CJ_seq ?_
    refine CJ_reg ?_
    refine LJ_y rfl rfl (YJ_move rfl) ?_
    refine LJ_y rfl rfl (YJ_bin rfl rfl rfl) ?_
    refine LJ_nil ?_
    refine QJ_then ?_
    refine CJ_cond rfl (fun h73 => ?_) (fun h73 => ?_)
    ·simp only [decide_eq_true_eq] at h73
     refine CJ_reg ?_
     refine LJ_y rfl rfl (YJ_move rfl) ?_
     refine LJ_y rfl rfl (YJ_nilCheck rfl) ?_
     refine LJ_y rfl rfl (YJ_fieldOwn rfl fld_57_3 rfl) ?_
     refine LJ_y rfl rfl (YJ_loadL rfl tyi_55 m1 rfl) ?_
     refine LJ_y rfl rfl (YJ_move rfl) ?_
     refine LJ_y rfl rfl (YJ_move rfl) ?_
     refine LJ_val (v := .int .i64 nn) (by first | rfl | rw [hnn]) ?_
     refine LJ_y rfl rfl (YJ_ixOwn rfl rfl elt_55 (by omega) (by omega)) ?_
     refine LJ_storeRow (off := c.toNat) (xs' := Iv (setAt (setAt (setAt M.ats a nn) b nn) c nn)) (μ' := (_ :: _ :: _ :: _ :: _ :: _ :: _)) 5 rfl rfl rfl (addr_eq (by omega)) rfl tyi_3 rfl (by simp only [Iv_len, setAt_len]; omega) rfl (Iv_setAt (by omega) (by first | omega | (simp only [setAt_len]; omega)) rfl) (by simp only [Iv_len, setAt_len]; omega) rfl ?_
     refine LJ_nil ?_
     refine QJ_in_normal ?_
     refine QJ_then ?_
     refine CJ_reg ?_
     refine LJ_y rfl rfl (YJ_bin rfl rfl (iop_add (by omega))) ?_
     refine LJ_y rfl rfl (YJ_move rfl) ?_
     refine LJ_nil ?_
     refine QJ_thenN ?_
     refine CN_succ ?_
     refine CJ_seq ?_
     refine CJ_reg ?_
     refine LJ_y rfl rfl (YJ_bin rfl rfl rfl) ?_
     refine LJ_nil ?_
     refine QJ_then ?_
     refine CJ_seq ?_
     refine CJ_condF rfl ?_
     refine CJ_exit ?_
     refine QJ_then_exit ?_
     refine QJ_then_exit ?_
     refine QJ_in_exit ?_
     refine QJ_then ?_
     refine CJ_seq ?_
     refine CJ_reg ?_
     refine LJ_y rfl rfl (YJ_move rfl) ?_
     refine LJ_y rfl rfl (YJ_assign rfl) ?_
     refine LJ_nil ?_
     refine QJ_then ?_
     refine CJ_ret ?_
     refine QJ_closeMesh (M.make a b c) (permI [1, 1, 1, 1, 1] rfl) ⟨rfl, rfl⟩ ⟨by simp [MD.make, hk1], by simp [MD.make, hk1]⟩ ⟨by simp [MD.make], rfl⟩ ⟨by simp [MD.make, setAt_len], by simp [MD.make, MD.nextN, hk1]⟩ ?_
     exact QJ_fin (.inl rfl) (μ' := [_]) (μr := [_]) (φ' := []) (res_tmp rfl rfl) (List.Perm.refl _) (fun _ h => nomatch h) ⟨congrArg (Value.int .i64) (by simp [MD.nextN, hk1]), rfl, rfl⟩
    ·simp only [decide_eq_false_iff_not] at h73
     refine CJ_turnK (k := 5) (r' := rowR 3 1 (some ⟨gA, 0, none⟩) M.ats.length cA (Iv (setAt (setAt (setAt M.ats a nn) b nn) c nn))) rfl (fun w S q => by rw [show setAt (setAt (setAt M.ats a nn) b nn) c nn = setAt (setAt M.ats a nn) b nn from if_neg (by omega)]; exact q) ?_
     refine CJ_skip ?_
     refine QJ_in_normal ?_
     refine QJ_then ?_
     refine CJ_reg ?_
     refine LJ_y rfl rfl (YJ_bin rfl rfl (iop_add (by omega))) ?_
     refine LJ_y rfl rfl (YJ_move rfl) ?_
     refine LJ_nil ?_
     refine QJ_thenN ?_
     refine CN_succ ?_
     refine CJ_seq ?_
     refine CJ_reg ?_
     refine LJ_y rfl rfl (YJ_bin rfl rfl rfl) ?_
     refine LJ_nil ?_
     refine QJ_then ?_
     refine CJ_seq ?_
     refine CJ_condF rfl ?_
     refine CJ_exit ?_
     refine QJ_then_exit ?_
     refine QJ_then_exit ?_
     refine QJ_in_exit ?_
     refine QJ_then ?_
     refine CJ_seq ?_
     refine CJ_reg ?_
     refine LJ_y rfl rfl (YJ_move rfl) ?_
     refine LJ_y rfl rfl (YJ_assign rfl) ?_
     refine LJ_nil ?_
     refine QJ_then ?_
     refine CJ_ret ?_
     refine QJ_closeMesh (M.make a b c) (permI [1, 1, 1, 1, 1] rfl) ⟨rfl, rfl⟩ ⟨by simp [MD.make, hk1], by simp [MD.make, hk1]⟩ ⟨by simp [MD.make], rfl⟩ ⟨by simp [MD.make, setAt_len], by simp [MD.make, MD.nextN, hk1]⟩ ?_
     exact QJ_fin (.inl rfl) (μ' := [_]) (μr := [_]) (φ' := []) (res_tmp rfl rfl) (List.Perm.refl _) (fun _ h => nomatch h) ⟨congrArg (Value.int .i64) (by simp [MD.nextN, hk1]), rfl, rfl⟩
 ·simp only [decide_eq_false_iff_not] at h31
  have hf0 : M.free = [] := List.eq_nil_of_length_eq_zero (by omega)
  obtain ⟨nn, hnn⟩ : ∃ x : Int, (M.tris.length : Int) = x := ⟨_, rfl⟩
  refine CJ_regM mix (by kernel_rfl) (fun _ _ _ _ _ h => h) [[], [10], [], [7, 10], [], []] ?_
  refine BJ_y 0 rfl (by kernel_rfl) (by kernel_rfl) (by kernel_rfl) rfl rfl (YJ_move rfl) ?_
  refine BJ_y 1 rfl (by kernel_rfl) (by kernel_rfl) (by kernel_rfl) rfl rfl (YJ_move rfl) ?_
  refine BJ_y 2 rfl (by kernel_rfl) (by kernel_rfl) (by kernel_rfl) rfl rfl (YJ_nilCheck rfl) ?_
  refine BJ_y 3 rfl (by kernel_rfl) (by kernel_rfl) (by kernel_rfl) rfl rfl (YJ_fieldOwn rfl fld_57_1 rfl) ?_
  refine BJ_l 4 1 rfl (by kernel_rfl) (by kernel_rfl) (by kernel_rfl) rfl (by kernel_rfl) m1 rfl rfl (YJ_loadL rfl tyi_54 m0 rfl) ?_
  refine BJ_l 5 0 rfl (by kernel_rfl) (by kernel_rfl) (by kernel_rfl) rfl (by kernel_rfl) m0 rfl rfl (YJ_loadN (vs := [_, _, _, _, _, _, _, _, _]) rfl tyi_37 m0 rfl rfl) ?_
  refine BJ_buildSlice (vs := [_]) (cs := [_, _, _, _, _, _, _, _, _]) 6 rfl (by kernel_rfl) rfl rfl elt_54 zer_37 (by decide) (by decide) rfl rfl rfl rfl rfl (fun b => (And.intro (.inr m1) (And.intro (.inr m2) (And.intro (.inr m3) (And.intro (.inr m4) (And.intro (.inr m5) (And.intro (.inr m6) (trivial)))))))) ?_
  intro b2
  refine BJ_append 7 4 rfl (by kernel_rfl) rfl rfl elt_54 zer_37 rfl rfl rfl rfl (Rd_own m0) rfl rfl (by omega) (by omega) (by decide) (trCells_app M.tris (Tr.new a b c)) (fun _ _ => (And.intro (.inr m1) (And.intro (.inr m2) (And.intro (.inr m3) (And.intro (.inl rfl) (And.intro (.inr m5) (And.intro (.inr m6) (trivial)))))))) ?_
  intro AT cAT
  show BJ _ _ _ _ _ _ _ _ (_ :: _ :: _ :: _ :: _ :: _ :: _ :: _) _
  refine BJ_y 8 rfl (by kernel_rfl) (by kernel_rfl) (by kernel_rfl) rfl rfl (YJ_nilCheck rfl) ?_
  refine BJ_y 9 rfl (by kernel_rfl) (by kernel_rfl) (by kernel_rfl) rfl rfl (YJ_fieldOwn rfl fld_57_1 rfl) ?_
  refine BJ_store (cs' := #[_, _, _, _]) (μ' := [_, _, _, _, _, _, _]) 10 2 rfl (by kernel_rfl) rfl rfl rfl rfl tyi_54 rfl (Nat.le_of_ble_eq_true rfl) rfl rfl rfl (And.intro (.inr m1) (And.intro (.inl rfl) (And.intro (.inr m3) (And.intro (.inl rfl) (And.intro (.inr m5) (And.intro (.inr m6) (trivial))))))) ?_
  refine BJ_done (by kernel_rfl) ?_
  refine QJ_then ?_
  refine CJ_seq ?_
  refine CJ_seq ?_
  refine CJ_reg ?_
  refine LJ_y rfl rfl (YJ_fieldOwn rfl fld_37_0 rfl) ?_
  refine LJ_y rfl rfl (YJ_loadN (vs := [_, _, _]) rfl tyi_34 m1 rfl rfl) ?_
  refine LJ_y rfl rfl (YJ_move rfl) ?_
  refine LJ_nil ?_
  refine QJ_then ?_
  refine CJ_block ?_
  refine CJ_loopN 4 ?_
  refine CN_succ ?_
  refine CJ_seq ?_
  refine CJ_reg ?_
  refine LJ_y rfl rfl (YJ_bin rfl rfl rfl) ?_
  refine LJ_nil ?_
  refine QJ_then ?_
  refine CJ_seq ?_
  refine CJ_condT rfl ?_
  refine CJ_skip ?_
  refine QJ_then ?_
  refine CJ_seq ?_
  refine CJ_block ?_
  refine CJ_seq ?_
  refine CJ_reg ?_
  refine LJ_y rfl rfl (YJ_index1 rfl rfl arrt_34 tyi_3 (by omega) (by omega) rfl) ?_
  refine LJ_y rfl rfl (YJ_assign rfl) ?_
  refine LJ_nil ?_
  refine QJ_then ?_
  refine CJ_seq ?_
  refine CJ_reg ?_
  refine LJ_y rfl rfl (YJ_move rfl) ?_
  refine LJ_y rfl rfl (YJ_bin rfl rfl rfl) ?_
  refine LJ_nil ?_
  refine QJ_then ?_
  refine CJ_cond rfl (fun h73 => ?_) (fun h73 => ?_)
  ·simp only [decide_eq_true_eq] at h73
   refine CJ_reg ?_
   refine LJ_y rfl rfl (YJ_move rfl) ?_
   refine LJ_y rfl rfl (YJ_nilCheck rfl) ?_
   refine LJ_y rfl rfl (YJ_fieldOwn rfl fld_57_3 rfl) ?_
   refine LJ_y rfl rfl (YJ_loadL rfl tyi_55 m2 rfl) ?_
   refine LJ_y rfl rfl (YJ_move rfl) ?_
   refine LJ_y rfl rfl (YJ_move rfl) ?_
   refine LJ_val (v := .int .i64 nn) (by first | rfl | rw [hnn]) ?_
   refine LJ_y rfl rfl (YJ_ixOwn rfl rfl elt_55 (by omega) (by omega)) ?_
   refine LJ_storeRow (off := a.toNat) (xs' := Iv (setAt M.ats a nn)) (μ' := (_ :: _ :: _ :: _ :: _ :: _ :: _ :: _)) 6 rfl rfl rfl (addr_eq (by omega)) rfl tyi_3 rfl (by simp only [Iv_len, setAt_len]; omega) rfl (Iv_setAt (by omega) (by first | omega | (simp only [setAt_len]; omega)) rfl) (by simp only [Iv_len, setAt_len]; omega) rfl ?_
   refine LJ_nil ?_
   refine QJ_in_normal ?_
   refine QJ_then ?_
   refine CJ_reg ?_
   refine LJ_y rfl rfl (YJ_bin rfl rfl (iop_add (by omega))) ?_
   refine LJ_y rfl rfl (YJ_move rfl) ?_
   refine LJ_nil ?_
   refine QJ_thenN ?_
   refine CN_succ ?_
   refine CJ_seq ?_
   refine CJ_reg ?_
   refine LJ_y rfl rfl (YJ_bin rfl rfl rfl) ?_
   refine LJ_nil ?_
   refine QJ_then ?_
   refine CJ_seq ?_
   refine CJ_condT rfl ?_
   refine CJ_skip ?_
   refine QJ_then ?_
   refine CJ_seq ?_
   refine CJ_block ?_
   refine CJ_seq ?_
   refine CJ_reg ?_
   refine LJ_y rfl rfl (YJ_index1 rfl rfl arrt_34 tyi_3 (by omega) (by omega) rfl) ?_
   refine LJ_y rfl rfl (YJ_assign rfl) ?_
   refine LJ_nil ?_
   refine QJ_then ?_
   refine CJ_seq ?_
   refine CJ_reg ?_
   refine LJ_y rfl rfl (YJ_move rfl) ?_
   refine LJ_y rfl rfl (YJ_bin rfl rfl rfl) ?_
   refine LJ_nil ?_
   refine QJ_then ?_
   refine CJ_cond rfl (fun h73 => ?_) (fun h73 => ?_)
   ·simp only [decide_eq_true_eq] at h73
    refine CJ_reg ?_
    refine LJ_y rfl rfl (YJ_move rfl) ?_
    refine LJ_y rfl rfl (YJ_nilCheck rfl) ?_
    refine LJ_y rfl rfl (YJ_fieldOwn rfl fld_57_3 rfl) ?_
    refine LJ_y rfl rfl (YJ_loadL rfl tyi_55 m2 rfl) ?_
    refine LJ_y rfl rfl (YJ_move rfl) ?_
    refine LJ_y rfl rfl (YJ_move rfl) ?_
    refine LJ_val (v := .int .i64 nn) (by first | rfl | rw [hnn]) ?_
    refine LJ_y rfl rfl (YJ_ixOwn rfl rfl elt_55 (by omega) (by omega)) ?_
    refine LJ_storeRow (off := b.toNat) (xs' := Iv (setAt (setAt M.ats a nn) b nn)) (μ' := (_ :: _ :: _ :: _ :: _ :: _ :: _ :: _)) 6 rfl rfl rfl (addr_eq (by omega)) rfl tyi_3 rfl (by simp only [Iv_len, setAt_len]; omega) rfl (Iv_setAt (by omega) (by first | omega | (simp only [setAt_len]; omega)) rfl) (by simp only [Iv_len, setAt_len]; omega) rfl ?_
    refine LJ_nil ?_
    refine QJ_in_normal ?_
    refine QJ_then ?_
    refine CJ_reg ?_
    refine LJ_y rfl rfl (YJ_bin rfl rfl (iop_add (by omega))) ?_
    refine LJ_y rfl rfl (YJ_move rfl) ?_
    refine LJ_nil ?_
    refine QJ_thenN ?_
    refine CN_succ ?_
    refine CJ_seq ?_
    refine CJ_reg ?_
    refine LJ_y rfl rfl (YJ_bin rfl rfl rfl) ?_
    refine LJ_nil ?_
    refine QJ_then ?_
    refine CJ_seq ?_
    refine CJ_condT rfl ?_
    refine CJ_skip ?_
    refine QJ_then ?_
    refine CJ_seq ?_
    refine CJ_block ?_
    refine CJ_seq ?_
    refine CJ_reg ?_
    refine LJ_y rfl rfl (YJ_index1 rfl rfl arrt_34 tyi_3 (by omega) (by omega) rfl) ?_
    refine LJ_y rfl rfl (YJ_assign rfl) ?_
    refine LJ_nil ?_
    refine QJ_then ?_
    refine CJ_seq ?_
    refine CJ_reg ?_
    refine LJ_y rfl rfl (YJ_move rfl) ?_
    refine LJ_y rfl rfl (YJ_bin rfl rfl rfl) ?_
    refine LJ_nil ?_
    refine QJ_then ?_
    refine CJ_cond rfl (fun h73 => ?_) (fun h73 => ?_)
    ·simp only [decide_eq_true_eq] at h73
     refine CJ_reg ?_
     refine LJ_y rfl rfl (YJ_move rfl) ?_
     refine LJ_y rfl rfl (YJ_nilCheck rfl) ?_
     refine LJ_y rfl rfl (YJ_fieldOwn rfl fld_57_3 rfl) ?_
     refine LJ_y rfl rfl (YJ_loadL rfl tyi_55 m2 rfl) ?_
     refine LJ_y rfl rfl (YJ_move rfl) ?_
     refine LJ_y rfl rfl (YJ_move rfl) ?_
     refine LJ_val (v := .int .i64 nn) (by first | rfl | rw [hnn]) ?_
     refine LJ_y rfl rfl (YJ_ixOwn rfl rfl elt_55 (by omega) (by omega)) ?_
     refine LJ_storeRow (off := c.toNat) (xs' := Iv (setAt (setAt (setAt M.ats a nn) b nn) c nn)) (μ' := (_ :: _ :: _ :: _ :: _ :: _ :: _ :: _)) 6 rfl rfl rfl (addr_eq (by omega)) rfl tyi_3 rfl (by simp only [Iv_len, setAt_len]; omega) rfl (Iv_setAt (by omega) (by first | omega | (simp only [setAt_len]; omega)) rfl) (by simp only [Iv_len, setAt_len]; omega) rfl ?_
     refine LJ_nil ?_
     refine QJ_in_normal ?_
     refine QJ_then ?_
     refine CJ_reg ?_
     refine LJ_y rfl rfl (YJ_bin rfl rfl (iop_add (by omega))) ?_
     refine LJ_y rfl rfl (YJ_move rfl) ?_
     refine LJ_nil ?_
     refine QJ_thenN ?_
     refine CN_succ ?_
     refine CJ_seq ?_
     refine CJ_reg ?_
     refine LJ_y rfl rfl (YJ_bin rfl rfl rfl) ?_
     refine LJ_nil ?_
     refine QJ_then ?_
     refine CJ_seq ?_
     refine CJ_condF rfl ?_
     refine CJ_exit ?_
     refine QJ_then_exit ?_
     refine QJ_then_exit ?_
     refine QJ_in_exit ?_
     refine QJ_then ?_
     refine CJ_seq ?_
     refine CJ_reg ?_
     refine LJ_y rfl rfl (YJ_move rfl) ?_
     refine LJ_y rfl rfl (YJ_assign rfl) ?_
     refine LJ_nil ?_
     refine QJ_then ?_
     refine CJ_ret ?_
     refine QJ_closeMesh (M.make a b c) (permI [2, 2, 2, 2, 2] rfl) ⟨rfl, rfl⟩ ⟨by simp [MD.make, hf0], by simp [MD.make, hf0]⟩ ⟨by simp [MD.make, hf0], by simp [MD.make, hf0]⟩ ⟨by simp [MD.make, setAt_len], by simp [MD.make, MD.nextN, hf0, hnn]⟩ ?_
     exact QJ_fin (.inl rfl) (μ' := [_]) (μr := [_, _]) (φ' := []) (res_tmp rfl rfl) (List.Perm.refl _) (fun _ h => nomatch h) ⟨congrArg (Value.int .i64) (by simp [MD.nextN, hf0]), rfl, rfl⟩
    ·simp only [decide_eq_false_iff_not] at h73
     refine CJ_turnK (k := 6) (r' := rowR 3 1 (some ⟨gA, 0, none⟩) M.ats.length cA (Iv (setAt (setAt (setAt M.ats a nn) b nn) c nn))) rfl (fun w S q => by rw [show setAt (setAt (setAt M.ats a nn) b nn) c nn = setAt (setAt M.ats a nn) b nn from if_neg (by omega)]; exact q) ?_
     refine CJ_skip ?_
     refine QJ_in_normal ?_
     refine QJ_then ?_
     refine CJ_reg ?_
     refine LJ_y rfl rfl (YJ_bin rfl rfl (iop_add (by omega))) ?_
     refine LJ_y rfl rfl (YJ_move rfl) ?_
     refine LJ_nil ?_
     refine QJ_thenN ?_
     refine CN_succ ?_
     refine CJ_seq ?_
     refine CJ_reg ?_
     refine LJ_y rfl rfl (YJ_bin rfl rfl rfl) ?_
     refine LJ_nil ?_
     refine QJ_then ?_
     refine CJ_seq ?_
     refine CJ_condF rfl ?_
     refine CJ_exit ?_
     refine QJ_then_exit ?_
     refine QJ_then_exit ?_
     refine QJ_in_exit ?_
     refine QJ_then ?_
     refine CJ_seq ?_
     refine CJ_reg ?_
     refine LJ_y rfl rfl (YJ_move rfl) ?_
     refine LJ_y rfl rfl (YJ_assign rfl) ?_
     refine LJ_nil ?_
     refine QJ_then ?_
     refine CJ_ret ?_
     refine QJ_closeMesh (M.make a b c) (permI [2, 2, 2, 2, 2] rfl) ⟨rfl, rfl⟩ ⟨by simp [MD.make, hf0], by simp [MD.make, hf0]⟩ ⟨by simp [MD.make, hf0], by simp [MD.make, hf0]⟩ ⟨by simp [MD.make, setAt_len], by simp [MD.make, MD.nextN, hf0, hnn]⟩ ?_
     exact QJ_fin (.inl rfl) (μ' := [_]) (μr := [_, _]) (φ' := []) (res_tmp rfl rfl) (List.Perm.refl _) (fun _ h => nomatch h) ⟨congrArg (Value.int .i64) (by simp [MD.nextN, hf0]), rfl, rfl⟩
   ·simp only [decide_eq_false_iff_not] at h73
    refine CJ_turnK (k := 6) (r' := rowR 3 1 (some ⟨gA, 0, none⟩) M.ats.length cA (Iv (setAt (setAt M.ats a nn) b nn))) rfl (fun w S q => by rw [show setAt (setAt M.ats a nn) b nn = setAt M.ats a nn from if_neg (by omega)]; exact q) ?_
    refine CJ_skip ?_
    refine QJ_in_normal ?_
    refine QJ_then ?_
    refine CJ_reg ?_
    refine LJ_y rfl rfl (YJ_bin rfl rfl (iop_add (by omega))) ?_
    refine LJ_y rfl rfl (YJ_move rfl) ?_
    refine LJ_nil ?_
    refine QJ_thenN ?_
    refine CN_succ ?_
    refine CJ_seq ?_
    refine CJ_reg ?_
    refine LJ_y rfl rfl (YJ_bin rfl rfl rfl) ?_
    refine LJ_nil ?_
    refine QJ_then ?_
    refine CJ_seq ?_
    refine CJ_condT rfl ?_
    refine CJ_skip ?_
    refine QJ_then ?_
    refine CJ_seq ?_
    refine CJ_block ?_
    refine CJ_seq ?_
    refine CJ_reg ?_
    refine LJ_y rfl rfl (YJ_index1 rfl rfl arrt_34 tyi_3 (by omega) (by omega) rfl) ?_
    refine LJ_y rfl rfl (YJ_assign rfl) ?_
    refine LJ_nil ?_
    refine QJ_then ?_
    refine CJ_seq ?_
    refine CJ_reg ?_
    refine LJ_y rfl rfl (YJ_move rfl) ?_
    refine LJ_y rfl rfl (YJ_bin rfl rfl rfl) ?_
    refine LJ_nil ?_
    refine QJ_then ?_
    refine CJ_cond rfl (fun h73 => ?_) (fun h73 => ?_)
    ·simp only [decide_eq_true_eq] at h73
     refine CJ_reg ?_
     refine LJ_y rfl rfl (YJ_move rfl) ?_
     refine LJ_y rfl rfl (YJ_nilCheck rfl) ?_
     refine LJ_y rfl rfl (YJ_fieldOwn rfl fld_57_3 rfl) ?_
     refine LJ_y rfl rfl (YJ_loadL rfl tyi_55 m2 rfl) ?_
     refine LJ_y rfl rfl (YJ_move rfl) ?_
     refine LJ_y rfl rfl (YJ_move rfl) ?_
     refine LJ_val (v := .int .i64 nn) (by first | rfl | rw [hnn]) ?_
     refine LJ_y rfl rfl (YJ_ixOwn rfl rfl elt_55 (by omega) (by omega)) ?_
     refine LJ_storeRow (off := c.toNat) (xs' := Iv (setAt (setAt (setAt M.ats a nn) b nn) c nn)) (μ' := (_ :: _ :: _ :: _ :: _ :: _ :: _ :: _)) 6 rfl rfl rfl (addr_eq (by omega)) rfl tyi_3 rfl (by simp only [Iv_len, setAt_len]; omega) rfl (Iv_setAt (by omega) (by first | omega | (simp only [setAt_len]; omega)) rfl) (by simp only [Iv_len, setAt_len]; omega) rfl ?_
     refine LJ_nil ?_
     refine QJ_in_normal ?_
     refine QJ_then ?_
     refine CJ_reg ?_
     refine LJ_y rfl rfl (YJ_bin rfl rfl (iop_add (by omega))) ?_
     refine LJ_y rfl rfl (YJ_move rfl) ?_
     refine LJ_nil ?_
     refine QJ_thenN ?_
     refine CN_succ ?_
     refine CJ_seq ?_
     refine CJ_reg ?_
     refine LJ_y rfl rfl (YJ_bin rfl rfl rfl) ?_
     refine LJ_nil ?_
     refine QJ_then ?_
     refine CJ_seq ?_
     refine CJ_condF rfl ?_
     refine CJ_exit ?_
     refine QJ_then_exit ?_
     refine QJ_then_exit ?_
     refine QJ_in_exit ?_
     refine QJ_then ?_
     refine CJ_seq ?_
     refine CJ_reg ?_
     refine LJ_y rfl rfl (YJ_move rfl) ?_
     refine LJ_y rfl rfl (YJ_assign rfl) ?_
     refine LJ_nil ?_
     refine QJ_then ?_
     refine CJ_ret ?_
     refine QJ_closeMesh (M.make a b c) (permI [2, 2, 2, 2, 2] rfl) ⟨rfl, rfl⟩ ⟨by simp [MD.make, hf0], by simp [MD.make, hf0]⟩ ⟨by simp [MD.make, hf0], by simp [MD.make, hf0]⟩ ⟨by simp [MD.make, setAt_len], by simp [MD.make, MD.nextN, hf0, hnn]⟩ ?_
     exact QJ_fin (.inl rfl) (μ' := [_]) (μr := [_, _]) (φ' := []) (res_tmp rfl rfl) (List.Perm.refl _) (fun _ h => nomatch h) ⟨congrArg (Value.int .i64) (by simp [MD.nextN, hf0]), rfl, rfl⟩
    ·simp only [decide_eq_false_iff_not] at h73
     refine CJ_turnK (k := 6) (r' := rowR 3 1 (some ⟨gA, 0, none⟩) M.ats.length cA (Iv (setAt (setAt (setAt M.ats a nn) b nn) c nn))) rfl (fun w S q => by rw [show setAt (setAt (setAt M.ats a nn) b nn) c nn = setAt (setAt M.ats a nn) b nn from if_neg (by omega)]; exact q) ?_
     refine CJ_skip ?_
     refine QJ_in_normal ?_
     refine QJ_then ?_
     refine CJ_reg ?_
     refine LJ_y rfl rfl (YJ_bin rfl rfl (iop_add (by omega))) ?_
     refine LJ_y rfl rfl (YJ_move rfl) ?_
     refine LJ_nil ?_
     refine QJ_thenN ?_
     refine CN_succ ?_
     refine CJ_seq ?_
     refine CJ_reg ?_
     refine LJ_y rfl rfl (YJ_bin rfl rfl rfl) ?_
     refine LJ_nil ?_
     refine QJ_then ?_
     refine CJ_seq ?_
     refine CJ_condF rfl ?_
     refine CJ_exit ?_
     refine QJ_then_exit ?_
     refine QJ_then_exit ?_
     refine QJ_in_exit ?_
     refine QJ_then ?_
     refine CJ_seq ?_
     refine CJ_reg ?_
     refine LJ_y rfl rfl (YJ_move rfl) ?_
     refine LJ_y rfl rfl (YJ_assign rfl) ?_
     refine LJ_nil ?_
     refine QJ_then ?_
     refine CJ_ret ?_
     refine QJ_closeMesh (M.make a b c) (permI [2, 2, 2, 2, 2] rfl) ⟨rfl, rfl⟩ ⟨by simp [MD.make, hf0], by simp [MD.make, hf0]⟩ ⟨by simp [MD.make, hf0], by simp [MD.make, hf0]⟩ ⟨by simp [MD.make, setAt_len], by simp [MD.make, MD.nextN, hf0, hnn]⟩ ?_
     exact QJ_fin (.inl rfl) (μ' := [_]) (μr := [_, _]) (φ' := []) (res_tmp rfl rfl) (List.Perm.refl _) (fun _ h => nomatch h) ⟨congrArg (Value.int .i64) (by simp [MD.nextN, hf0]), rfl, rfl⟩
  ·simp only [decide_eq_false_iff_not] at h73
   refine CJ_turnK (k := 6) (r' := rowR 3 1 (some ⟨gA, 0, none⟩) M.ats.length cA (Iv (setAt M.ats a nn))) rfl (fun w S q => by rw [show setAt M.ats a nn = M.ats from if_neg (by omega)]; exact q) ?_
   refine CJ_skip ?_
   refine QJ_in_normal ?_
   refine QJ_then ?_
   refine CJ_reg ?_
   refine LJ_y rfl rfl (YJ_bin rfl rfl (iop_add (by omega))) ?_
   refine LJ_y rfl rfl (YJ_move rfl) ?_
   refine LJ_nil ?_
   refine QJ_thenN ?_
   refine CN_succ ?_
   refine CJ_seq ?_
   refine CJ_reg ?_
   refine LJ_y rfl rfl (YJ_bin rfl rfl rfl) ?_
   refine LJ_nil ?_
   refine QJ_then ?_
   refine CJ_seq ?_
   refine CJ_condT rfl ?_
   refine CJ_skip ?_
   refine QJ_then ?_
   refine CJ_seq ?_
   refine CJ_block ?_
   refine CJ_seq ?_
   refine CJ_reg ?_
   refine LJ_y rfl rfl (YJ_index1 rfl rfl arrt_34 tyi_3 (by omega) (by omega) rfl) ?_
   refine LJ_y rfl rfl (YJ_assign rfl) ?_
   refine LJ_nil ?_
   refine QJ_then ?_
   refine CJ_seq ?_
   refine CJ_reg ?_
   refine LJ_y rfl rfl (YJ_move rfl) ?_
   refine LJ_y rfl rfl (YJ_bin rfl rfl rfl) ?_
   refine LJ_nil ?_
   refine QJ_then ?_
   refine CJ_cond rfl (fun h73 => ?_) (fun h73 => ?_)
   ·simp only [decide_eq_true_eq] at h73
    refine CJ_reg ?_
    refine LJ_y rfl rfl (YJ_move rfl) ?_
    refine LJ_y rfl rfl (YJ_nilCheck rfl) ?_
    refine LJ_y rfl rfl (YJ_fieldOwn rfl fld_57_3 rfl) ?_
    refine LJ_y rfl rfl (YJ_loadL rfl tyi_55 m2 rfl) ?_
    refine LJ_y rfl rfl (YJ_move rfl) ?_
    refine LJ_y rfl rfl (YJ_move rfl) ?_
    refine LJ_val (v := .int .i64 nn) (by first | rfl | rw [hnn]) ?_
    refine LJ_y rfl rfl (YJ_ixOwn rfl rfl elt_55 (by omega) (by omega)) ?_
    refine LJ_storeRow (off := b.toNat) (xs' := Iv (setAt (setAt M.ats a nn) b nn)) (μ' := (_ :: _ :: _ :: _ :: _ :: _ :: _ :: _)) 6 rfl rfl rfl (addr_eq (by omega)) rfl tyi_3 rfl (by simp only [Iv_len, setAt_len]; omega) rfl (Iv_setAt (by omega) (by first | omega | (simp only [setAt_len]; omega)) rfl) (by simp only [Iv_len, setAt_len]; omega) rfl ?_
    refine LJ_nil ?_
    refine QJ_in_normal ?_
    refine QJ_then ?_
    refine CJ_reg ?_
    refine LJ_y rfl rfl (YJ_bin rfl rfl (iop_add (by omega))) ?_
    refine LJ_y rfl rfl (YJ_move rfl) ?_
    refine LJ_nil ?_
    refine QJ_thenN ?_
    refine CN_succ ?_
    refine CJ_seq ?_
    refine CJ_reg ?_
    refine LJ_y rfl rfl (YJ_bin rfl rfl rfl) ?_
    refine LJ_nil ?_
    refine QJ_then ?_
    refine CJ_seq ?_
    refine CJ_condT rfl ?_
    refine CJ_skip ?_
    refine QJ_then ?_
    refine CJ_seq ?_
    refine CJ_block ?_
    refine CJ_seq ?_
    refine CJ_reg ?_
    refine LJ_y rfl rfl (YJ_index1 rfl rfl arrt_34 tyi_3 (by omega) (by omega) rfl) ?_
    refine LJ_y rfl rfl (YJ_assign rfl) ?_
    refine LJ_nil ?_
    refine QJ_then ?_
    refine CJ_seq ?_
    refine CJ_reg ?_
    refine LJ_y rfl rfl (YJ_move rfl) ?_
    refine LJ_y rfl rfl (YJ_bin rfl rfl rfl) ?_
    refine LJ_nil ?_
    refine QJ_then ?_
    refine CJ_cond rfl (fun h73 => ?_) (fun h73 => ?_)
    ·simp only [decide_eq_true_eq] at h73
     refine CJ_reg ?_
     refine LJ_y rfl rfl (YJ_move rfl) ?_
     refine LJ_y rfl rfl (YJ_nilCheck rfl) ?_
     refine LJ_y rfl rfl (YJ_fieldOwn rfl fld_57_3 rfl) ?_
     refine LJ_y rfl rfl (YJ_loadL rfl tyi_55 m2 rfl) ?_
     refine LJ_y rfl rfl (YJ_move rfl) ?_
     refine LJ_y rfl rfl (YJ_move rfl) ?_
     refine LJ_val (v := .int .i64 nn) (by first | rfl | rw [hnn]) ?_
     refine LJ_y rfl rfl (YJ_ixOwn rfl rfl elt_55 (by omega) (by omega)) ?_
     refine LJ_storeRow (off := c.toNat) (xs' := Iv (setAt (setAt (setAt M.ats a nn) b nn) c nn)) (μ' := (_ :: _ :: _ :: _ :: _ :: _ :: _ :: _)) 6 rfl rfl rfl (addr_eq (by omega)) rfl tyi_3 rfl (by simp only [Iv_len, setAt_len]; omega) rfl (Iv_setAt (by omega) (by first | omega | (simp only [setAt_len]; omega)) rfl) (by simp only [Iv_len, setAt_len]; omega) rfl ?_
     refine LJ_nil ?_
     refine QJ_in_normal ?_
     refine QJ_then ?_
     refine CJ_reg ?_
     refine LJ_y rfl rfl (YJ_bin rfl rfl (iop_add (by omega))) ?_
     refine LJ_y rfl rfl (YJ_move rfl) ?_
     refine LJ_nil ?_
     refine QJ_thenN ?_
     refine CN_succ ?_
     refine CJ_seq ?_
     refine CJ_reg ?_
     refine LJ_y rfl rfl (YJ_bin rfl rfl rfl) ?_
     refine LJ_nil ?_
     refine QJ_then ?_
     refine CJ_seq ?_
     refine CJ_condF rfl ?_
     refine CJ_exit ?_
     refine QJ_then_exit ?_
     refine QJ_then_exit ?_
     refine QJ_in_exit ?_
     refine QJ_then ?_
     refine CJ_seq ?_
     refine CJ_reg ?_
     refine LJ_y rfl rfl (YJ_move rfl) ?_
     refine LJ_y rfl rfl (YJ_assign rfl) ?_
     refine LJ_nil ?_
     refine QJ_then ?_
     refine CJ_ret ?_
     refine QJ_closeMesh (M.make a b c) (permI [2, 2, 2, 2, 2] rfl) ⟨rfl, rfl⟩ ⟨by simp [MD.make, hf0], by simp [MD.make, hf0]⟩ ⟨by simp [MD.make, hf0], by simp [MD.make, hf0]⟩ ⟨by simp [MD.make, setAt_len], by simp [MD.make, MD.nextN, hf0, hnn]⟩ ?_
     exact QJ_fin (.inl rfl) (μ' := [_]) (μr := [_, _]) (φ' := []) (res_tmp rfl rfl) (List.Perm.refl _) (fun _ h => nomatch h) ⟨congrArg (Value.int .i64) (by simp [MD.nextN, hf0]), rfl, rfl⟩
    ·simp only [decide_eq_false_iff_not] at h73
     refine CJ_turnK (k := 6) (r' := rowR 3 1 (some ⟨gA, 0, none⟩) M.ats.length cA (Iv (setAt (setAt (setAt M.ats a nn) b nn) c nn))) rfl (fun w S q => by rw [show setAt (setAt (setAt M.ats a nn) b nn) c nn = setAt (setAt M.ats a nn) b nn from if_neg (by omega)]; exact q) ?_
     refine CJ_skip ?_
     refine QJ_in_normal ?_
     refine QJ_then ?_
     refine CJ_reg ?_
     refine LJ_y rfl rfl (YJ_bin rfl rfl (iop_add (by omega))) ?_
     refine LJ_y rfl rfl (YJ_move rfl) ?_
     refine LJ_nil ?_
     refine QJ_thenN ?_
     refine CN_succ ?_
     refine CJ_seq ?_
     refine CJ_reg ?_
     refine LJ_y rfl rfl (YJ_bin rfl rfl rfl) ?_
     refine LJ_nil ?_
     refine QJ_then ?_
     refine CJ_seq ?_
     refine CJ_condF rfl ?_
     refine CJ_exit ?_
     refine QJ_then_exit ?_
     refine QJ_then_exit ?_
     refine QJ_in_exit ?_
     refine QJ_then ?_
     refine CJ_seq ?_
     refine CJ_reg ?_
     refine LJ_y rfl rfl (YJ_move rfl) ?_
     refine LJ_y rfl rfl (YJ_assign rfl) ?_
     refine LJ_nil ?_
     refine QJ_then ?_
     refine CJ_ret ?_
     refine QJ_closeMesh (M.make a b c) (permI [2, 2, 2, 2, 2] rfl) ⟨rfl, rfl⟩ ⟨by simp [MD.make, hf0], by simp [MD.make, hf0]⟩ ⟨by simp [MD.make, hf0], by simp [MD.make, hf0]⟩ ⟨by simp [MD.make, setAt_len], by simp [MD.make, MD.nextN, hf0, hnn]⟩ ?_
     exact QJ_fin (.inl rfl) (μ' := [_]) (μr := [_, _]) (φ' := []) (res_tmp rfl rfl) (List.Perm.refl _) (fun _ h => nomatch h) ⟨congrArg (Value.int .i64) (by simp [MD.nextN, hf0]), rfl, rfl⟩
   ·simp only [decide_eq_false_iff_not] at h73
    refine CJ_turnK (k := 6) (r' := rowR 3 1 (some ⟨gA, 0, none⟩) M.ats.length cA (Iv (setAt (setAt M.ats a nn) b nn))) rfl (fun w S q => by rw [show setAt (setAt M.ats a nn) b nn = setAt M.ats a nn from if_neg (by omega)]; exact q) ?_
    refine CJ_skip ?_
    refine QJ_in_normal ?_
    refine QJ_then ?_
    refine CJ_reg ?_
    refine LJ_y rfl rfl (YJ_bin rfl rfl (iop_add (by omega))) ?_
    refine LJ_y rfl rfl (YJ_move rfl) ?_
    refine LJ_nil ?_
    refine QJ_thenN ?_
    refine CN_succ ?_
    refine CJ_seq ?_
    refine CJ_reg ?_
    refine LJ_y rfl rfl (YJ_bin rfl rfl rfl) ?_
    refine LJ_nil ?_
    refine QJ_then ?_
    refine CJ_seq ?_
    refine CJ_condT rfl ?_
    refine CJ_skip ?_
    refine QJ_then ?_
    refine CJ_seq ?_
    refine CJ_block ?_
    refine CJ_seq ?_
    refine CJ_reg ?_
    refine LJ_y rfl rfl (YJ_index1 rfl rfl arrt_34 tyi_3 (by omega) (by omega) rfl) ?_
    refine LJ_y rfl rfl (YJ_assign rfl) ?_
    refine LJ_nil ?_
    refine QJ_then ?_
    refine CJ_seq ?_
    refine CJ_reg ?_
    refine LJ_y rfl rfl (YJ_move rfl) ?_
    refine LJ_y rfl rfl (YJ_bin rfl rfl rfl) ?_
    refine LJ_nil ?_
    refine QJ_then ?_
    refine CJ_cond rfl (fun h73 => ?_) (fun h73 => ?_)
    ·simp only [decide_eq_true_eq] at h73
     refine CJ_reg ?_
     refine LJ_y rfl rfl (YJ_move rfl) ?_
     refine LJ_y rfl rfl (YJ_nilCheck rfl) ?_
     refine LJ_y rfl rfl (YJ_fieldOwn rfl fld_57_3 rfl) ?_
     refine LJ_y rfl rfl (YJ_loadL rfl tyi_55 m2 rfl) ?_
     refine LJ_y rfl rfl (YJ_move rfl) ?_
     refine LJ_y rfl rfl (YJ_move rfl) ?_
     refine LJ_val (v := .int .i64 nn) (by first | rfl | rw [hnn]) ?_
     refine LJ_y rfl rfl (YJ_ixOwn rfl rfl elt_55 (by omega) (by omega)) ?_
     refine LJ_storeRow (off := c.toNat) (xs' := Iv (setAt (setAt (setAt M.ats a nn) b nn) c nn)) (μ' := (_ :: _ :: _ :: _ :: _ :: _ :: _ :: _)) 6 rfl rfl rfl (addr_eq (by omega)) rfl tyi_3 rfl (by simp only [Iv_len, setAt_len]; omega) rfl (Iv_setAt (by omega) (by first | omega | (simp only [setAt_len]; omega)) rfl) (by simp only [Iv_len, setAt_len]; omega) rfl ?_
     refine LJ_nil ?_
     refine QJ_in_normal ?_
     refine QJ_then ?_
     refine CJ_reg ?_
     refine LJ_y rfl rfl (YJ_bin rfl rfl (iop_add (by omega))) ?_
     refine LJ_y rfl rfl (YJ_move rfl) ?_
     refine LJ_nil ?_
     refine QJ_thenN ?_
     refine CN_succ ?_
     refine CJ_seq ?_
     refine CJ_reg ?_
     refine LJ_y rfl rfl (YJ_bin rfl rfl rfl) ?_
     refine LJ_nil ?_
     refine QJ_then ?_
     refine CJ_seq ?_
     refine CJ_condF rfl ?_
     refine CJ_exit ?_
     refine QJ_then_exit ?_
     refine QJ_then_exit ?_
     refine QJ_in_exit ?_
     refine QJ_then ?_
     refine CJ_seq ?_
     refine CJ_reg ?_
     refine LJ_y rfl rfl (YJ_move rfl) ?_
     refine LJ_y rfl rfl (YJ_assign rfl) ?_
     refine LJ_nil ?_
     refine QJ_then ?_
     refine CJ_ret ?_
     refine QJ_closeMesh (M.make a b c) (permI [2, 2, 2, 2, 2] rfl) ⟨rfl, rfl⟩ ⟨by simp [MD.make, hf0], by simp [MD.make, hf0]⟩ ⟨by simp [MD.make, hf0], by simp [MD.make, hf0]⟩ ⟨by simp [MD.make, setAt_len], by simp [MD.make, MD.nextN, hf0, hnn]⟩ ?_
     exact QJ_fin (.inl rfl) (μ' := [_]) (μr := [_, _]) (φ' := []) (res_tmp rfl rfl) (List.Perm.refl _) (fun _ h => nomatch h) ⟨congrArg (Value.int .i64) (by simp [MD.nextN, hf0]), rfl, rfl⟩
    ·simp only [decide_eq_false_iff_not] at h73
     refine CJ_turnK (k := 6) (r' := rowR 3 1 (some ⟨gA, 0, none⟩) M.ats.length cA (Iv (setAt (setAt (setAt M.ats a nn) b nn) c nn))) rfl (fun w S q => by rw [show setAt (setAt (setAt M.ats a nn) b nn) c nn = setAt (setAt M.ats a nn) b nn from if_neg (by omega)]; exact q) ?_
     refine CJ_skip ?_
     refine QJ_in_normal ?_
     refine QJ_then ?_
     refine CJ_reg ?_
     refine LJ_y rfl rfl (YJ_bin rfl rfl (iop_add (by omega))) ?_
     refine LJ_y rfl rfl (YJ_move rfl) ?_
     refine LJ_nil ?_
     refine QJ_thenN ?_
     refine CN_succ ?_
     refine CJ_seq ?_
     refine CJ_reg ?_
     refine LJ_y rfl rfl (YJ_bin rfl rfl rfl) ?_
     refine LJ_nil ?_
     refine QJ_then ?_
     refine CJ_seq ?_
     refine CJ_condF rfl ?_
     refine CJ_exit ?_
     refine QJ_then_exit ?_
     refine QJ_then_exit ?_
     refine QJ_in_exit ?_
     refine QJ_then ?_
     refine CJ_seq ?_
     refine CJ_reg ?_
     refine LJ_y rfl rfl (YJ_move rfl) ?_
     refine LJ_y rfl rfl (YJ_assign rfl) ?_
     refine LJ_nil ?_
     refine QJ_then ?_
     refine CJ_ret ?_
     refine QJ_closeMesh (M.make a b c) (permI [2, 2, 2, 2, 2] rfl) ⟨rfl, rfl⟩ ⟨by simp [MD.make, hf0], by simp [MD.make, hf0]⟩ ⟨by simp [MD.make, hf0], by simp [MD.make, hf0]⟩ ⟨by simp [MD.make, setAt_len], by simp [MD.make, MD.nextN, hf0, hnn]⟩ ?_
     exact QJ_fin (.inl rfl) (μ' := [_]) (μr := [_, _]) (φ' := []) (res_tmp rfl rfl) (List.Perm.refl _) (fun _ h => nomatch h) ⟨congrArg (Value.int .i64) (by simp [MD.nextN, hf0]), rfl, rfl⟩
end Go.Proofs.Ytbanlhlggkdanaa
namespace Go.Proofs.Ytbanlhlggkdanaa
open Go.RowKit
theorem ent_18 : Enter Try.prog 18 = true := by kernel_rfl
theorem lay_57 : lay1 Try.prog 57 = some [.slice none 0 0, .slice none 0 0, .slice none 0 0, .slice none 0 0] := by kernel_rfl
def newM0 (pts : List (Int × Int)) : MD := ⟨pts, [], [], List.replicate pts.length (-1)⟩
def newM (pts : List (Int × Int)) (a b c : Int) : MD :=
 (((((((((((newM0 pts).make a b c).make c b (-1)).link 0 0 1 2 false).make a c (-1)).link 0 1 2 2 false).make b a (-1)).link 0 2 3 2 false).link 1 1 2 0 false).link 2 1 3 0 false).link 3 1 1 0 false)
theorem ptCells_len : ∀ (l : List (Int × Int)), (ptCells l).length = l.length * 2
 | [] => rfl
 | p :: l => by
  have := ptCells_len l
  simp only [ptCells, List.flatMap_cons, List.length_append, List.length_cons, List.length_nil] at *
  omega
theorem ptCells_one : ∀ (l : List (Int × Int)), (ptCells l).all (·.oneCell') = true
 | [] => rfl
 | p :: l => by
  have := ptCells_one l
  simp only [ptCells, List.flatMap_cons, List.all_append, List.all_cons] at *
  rw [this]
  rfl
theorem Iv_rep (k : Nat) : Iv (List.replicate k (-1)) ++ [Value.int .i64 (-1)] = Iv (List.replicate (k + 1) (-1)) := by
 rw [List.replicate_succ', Iv, Iv, List.map_append]
 rfl
abbrev pA (pts : List (Int × Int)) (a b c : Nat) : Int := A2 (pts.getD a (0, 0)).1 (pts.getD a (0, 0)).2 (pts.getD b (0, 0)).1 (pts.getD b (0, 0)).2 (pts.getD c (0, 0)).1 (pts.getD c (0, 0)).2
set_option maxRecDepth 100000 in
set_option maxHeartbeats 8000000 in
theorem new_pos {A : Option Addr} {pts : List (Int × Int)} {cp a b c : Nat} (hlen : pts.length ≤ 100000) (ha : a < pts.length) (hb : b < pts.length) (hc : c < pts.length) (hP : ∀ j, j < pts.length → P2 (pts.getD j (0, 0)).1 (pts.getD j (0, 0)).2) (hA : 0 < pA pts a b c) : Tri Try.prog 18 [.slice A pts.length cp, .int .i64 (a : Int), .int .i64 (b : Int), .int .i64 (c : Int)] [] [sliceR 2 A pts.length (ptCells pts)] (RetL (fun _ : Nat => True) (fun B => .tuple #[.pointer (some ⟨B, 0, none⟩), .bool true]) (fun B => meshR B (newM pts a b c)) (fun _ => [])) := by
 refine Tri_of (N := 102) Try.func18 rfl ent_18 rfl rfl ?_
 intro w0 S0 T0
 show CJ _ _ _ [(0, _), (1, _), (2, _), (3, _)] _ _
 have hpl := ptCells_len pts
 have hs0 : ¬ sgn (pA pts a b c) = 0 := by have := sgn_cases (pA pts a b c); omega
 have hs1 : ¬ sgn (pA pts a b c) = -1 := by have := sgn_cases (pA pts a b c); omega
 refine CJ_seq ?_
 refine CJ_reg ?_
 refine LJ_y rfl rfl (YJ_assign rfl) ?_
 refine LJ_y rfl rfl (YJ_assign rfl) ?_
 refine LJ_nil ?_
 refine QJ_then ?_
 refine CJ_seq ?_
 refine CJ_newRow 3 1 ?_
 refine CJ_newRow 3 1 ?_
 refine CJ_newRow 37 9 ?_
 refine CJ_newRow 23 2 ?_
 refine CJ_reg ?_
 refine LJ_y rfl rfl (YJ_move rfl) ?_
 refine LJ_append 0 rfl rfl elt_26 zer_23 rfl rfl rfl rfl (Rd_fact m0 (by omega)) hpl (ptCells_one pts) (by omega) (by omega) (by decide) (List.nil_append _) ?_
 intro AP cP
 show LJ _ _ _ _ _ (_ :: _ :: _ :: _ :: _) _
 refine LJ_y rfl rfl (YJ_build1 (cs := [_, _, _, _]) lay_57 rfl rfl rfl) ?_
 refine LJ_box (cs := #[_, _, _, _]) rfl rfl rfl rfl ?_
 intro b1
 refine LJ_y rfl rfl (YJ_assign rfl) ?_
 refine LJ_nil ?_
 refine QJ_then ?_
 refine CJ_seq ?_
 refine CJ_seq ?_
 refine CJ_reg ?_
 refine LJ_y rfl rfl (YJ_move rfl) ?_
 refine LJ_y rfl rfl (YJ_len rfl ulen_26 rfl) ?_
 refine LJ_y rfl rfl (YJ_move rfl) ?_
 refine LJ_nil ?_
 refine QJ_then ?_
 refine CJ_block ?_
 refine CJ_loopF (F := fun (i : Nat × Option Addr × Nat) => ⟨[(0, .slice A pts.length cp), (1, .int .i64 (a : Int)), (2, .int .i64 (b : Int)), (3, .int .i64 (c : Int)), (10, .pointer (some ⟨b1, 0, none⟩)), (21, .int .i64 pts.length), (22, .int .i64 (i.1 : Nat))], [cellsR b1 #[.slice AP (0 + pts.length) cP, .slice none 0 0, .slice none 0 0, .slice i.2.1 i.1 i.2.2] 57, rowR 3 1 i.2.1 i.1 i.2.2 (Iv (List.replicate i.1 (-1)))], []⟩) (I := fun (i : Nat × Option Addr × Nat) => i.1 ≤ pts.length) (m := fun (i : Nat × Option Addr × Nat) => pts.length - i.1) (0, none, 0) (μr := [_, _, _]) (Nat.zero_le _) (And.intro rfl (And.intro rfl (And.intro rfl (And.intro rfl (And.intro rfl (And.intro rfl (And.intro rfl (trivial)))))))) (permI [0, 3] rfl) (fun _ h => nomatch h) ?_
 rintro ⟨k, A0, cA0⟩ hk
 try dsimp only at hk
 show CJ _ _ _ [(0, .slice A pts.length cp), (1, .int .i64 (a : Int)), (2, .int .i64 (b : Int)), (3, .int .i64 (c : Int)), (10, .pointer (some ⟨b1, 0, none⟩)), (21, .int .i64 pts.length), (22, .int .i64 (k : Nat))] (cellsR b1 #[.slice AP (0 + pts.length) cP, .slice none 0 0, .slice none 0 0, .slice A0 k cA0] 57 :: rowR 3 1 A0 k cA0 (Iv (List.replicate k (-1))) :: _ :: _ :: _ :: _) _
 refine CJ_seq ?_
 refine CJ_reg ?_
 refine LJ_y rfl rfl (YJ_bin rfl rfl rfl) ?_
 refine LJ_nil ?_
 refine QJ_then ?_
 refine CJ_seq ?_
 refine CJ_cond rfl (fun h23 => ?_) (fun h23 => ?_)
 ·simp only [decide_eq_true_eq] at h23
  refine CJ_skip ?_
  refine QJ_then ?_
  refine CJ_seq ?_
  refine CJ_block ?_
  refine CJ_reg ?_
  refine LJ_y rfl rfl (YJ_move rfl) ?_
  refine LJ_y rfl rfl (YJ_move rfl) ?_
  refine LJ_y rfl rfl (YJ_nilCheck rfl) ?_
  refine LJ_y rfl rfl (YJ_fieldOwn rfl fld_57_3 rfl) ?_
  refine LJ_y rfl rfl (YJ_loadL rfl tyi_55 m0 rfl) ?_
  refine LJ_buildSlice (cs := [_]) rfl rfl elt_55 zer_3 rfl (by decide) (pvs := [(_, _)]) rfl rfl rfl ?_
  intro b2
  refine LJ_append 2 rfl rfl elt_55 zer_3 rfl rfl rfl rfl (Rd_own m0) rfl rfl (by omega) (by omega) (by decide) (Iv_rep k) ?_
  intro A30 c30
  show LJ _ _ _ _ _ (_ :: _ :: _ :: _ :: _ :: _ :: _) _
  refine LJ_y rfl rfl (YJ_nilCheck rfl) ?_
  refine LJ_y rfl rfl (YJ_fieldOwn rfl fld_57_3 rfl) ?_
  refine LJ_store (cs' := #[_, _, _, _]) (μ' := [_, _, _, _, _, _]) 1 rfl rfl rfl rfl tyi_55 rfl (Nat.le_of_ble_eq_true rfl) rfl rfl rfl ?_
  refine LJ_nil ?_
  refine QJ_in_normal ?_
  refine QJ_then ?_
  refine CJ_reg ?_
  refine LJ_y rfl rfl (YJ_bin rfl rfl (iop_add (by omega))) ?_
  refine LJ_y rfl rfl (YJ_move rfl) ?_
  refine LJ_nil ?_
  refine QJ_roundF (F := fun (i : Nat × Option Addr × Nat) => ⟨[(0, .slice A pts.length cp), (1, .int .i64 (a : Int)), (2, .int .i64 (b : Int)), (3, .int .i64 (c : Int)), (10, .pointer (some ⟨b1, 0, none⟩)), (21, .int .i64 pts.length), (22, .int .i64 (i.1 : Nat))], [cellsR b1 #[.slice AP (0 + pts.length) cP, .slice none 0 0, .slice none 0 0, .slice i.2.1 i.1 i.2.2] 57, rowR 3 1 i.2.1 i.1 i.2.2 (Iv (List.replicate i.1 (-1)))], []⟩) (I := fun (i : Nat × Option Addr × Nat) => i.1 ≤ pts.length) (m := fun (i : Nat × Option Addr × Nat) => pts.length - i.1) (i := (k, A0, cA0)) ((k + 1, A30, c30)) (μd := [_]) (by dsimp only; omega) (by dsimp only; omega) (And.intro rfl (And.intro rfl (And.intro rfl (And.intro rfl (And.intro rfl (And.intro rfl (And.intro rfl (trivial)))))))) (permI [1, 1, 1, 1, 1] rfl) (fun _ h => nomatch h) (fun _ h => h)
 ·simp only [decide_eq_false_iff_not] at h23
  refine CJ_exit ?_
  refine QJ_then_exit ?_
  refine QJ_then_exit ?_
  refine QJ_in_exit ?_
  refine QJ_then ?_
  refine CJ_seq ?_
  refine CJ_seq ?_
  refine CJ_regD mix (by kernel_rfl) (fun _ _ _ _ _ h => h) _ _ (fun _ h => h) (fun _ h => h) ?_
  refine AJ_y 0 rfl (by kernel_rfl) (by kernel_rfl) rfl rfl (YJ_move rfl) ?_
  refine AJ_y 1 rfl (by kernel_rfl) (by kernel_rfl) rfl rfl (YJ_move rfl) ?_
  refine AJ_y 2 rfl (by kernel_rfl) (by kernel_rfl) rfl rfl (YJ_ixFact rfl rfl elt_26 m0 (by decide) (by omega) (by omega) (by omega)) ?_
  refine AJ_y 3 rfl (by kernel_rfl) (by kernel_rfl) rfl rfl (YJ_loadFactN (vs := [_, _]) (xs := ptCells pts) rfl tyi_23 m0 (ptCells_get (i := a) (by omega)) rfl) ?_
  refine AJ_y 4 rfl (by kernel_rfl) (by kernel_rfl) rfl rfl (YJ_move rfl) ?_
  refine AJ_y 5 rfl (by kernel_rfl) (by kernel_rfl) rfl rfl (YJ_move rfl) ?_
  refine AJ_y 6 rfl (by kernel_rfl) (by kernel_rfl) rfl rfl (YJ_ixFact rfl rfl elt_26 m0 (by decide) (by omega) (by omega) (by omega)) ?_
  refine AJ_y 7 rfl (by kernel_rfl) (by kernel_rfl) rfl rfl (YJ_loadFactN (vs := [_, _]) (xs := ptCells pts) rfl tyi_23 m0 (ptCells_get (i := b) (by omega)) rfl) ?_
  refine AJ_y 8 rfl (by kernel_rfl) (by kernel_rfl) rfl rfl (YJ_move rfl) ?_
  refine AJ_y 9 rfl (by kernel_rfl) (by kernel_rfl) rfl rfl (YJ_move rfl) ?_
  refine AJ_y 10 rfl (by kernel_rfl) (by kernel_rfl) rfl rfl (YJ_ixFact rfl rfl elt_26 m0 (by decide) (by omega) (by omega) (by omega)) ?_
  refine AJ_y 11 rfl (by kernel_rfl) (by kernel_rfl) rfl rfl (YJ_loadFactN (vs := [_, _]) (xs := ptCells pts) rfl tyi_23 m0 (ptCells_get (i := c) (by omega)) rfl) ?_
  refine AJ_call0 12 rfl (by kernel_rfl) rfl rfl rfl rfl rfl (orient_c (hP a ha) (hP b hb) (hP c hc)) (AllIn.sub (by first | exact trivial | exact And.intro (by repeat first | exact .head _ | apply List.Mem.tail) trivial | exact And.intro (by repeat first | exact .head _ | apply List.Mem.tail) (And.intro (by repeat first | exact .head _ | apply List.Mem.tail) trivial))) ?_
  refine AJ_done (by kernel_rfl) ?_
  refine QJ_then ?_
  refine CJ_block ?_
  refine CJ_seq ?_
  refine CJ_reg ?_
  refine LJ_y rfl rfl (YJ_bin rfl rfl rfl) ?_
  refine LJ_y rfl rfl (YJ_assign rfl) ?_
  refine LJ_nil ?_
  refine QJ_then ?_
  refine CJ_condF2 rfl (decide_eq_false hs0) ?_
  refine CJ_seq ?_
  refine CJ_reg ?_
  refine LJ_y rfl rfl (YJ_bin rfl rfl rfl) ?_
  refine LJ_y rfl rfl (YJ_assign rfl) ?_
  refine LJ_nil ?_
  refine QJ_then ?_
  refine CJ_condF2 rfl (decide_eq_false hs1) ?_
  refine CJ_skip ?_
  refine QJ_in_normal ?_
  refine QJ_then ?_
  refine CJ_seq ?_
  refine CJ_closeMesh (newM0 pts) (μr := []) (permI [0, 1, 1, 1] rfl) ⟨by simp [newM0], rfl⟩ ⟨rfl, rfl⟩ ⟨rfl, rfl⟩ ⟨by simp [newM0]; omega, by simp only [newM0]; rw [show k = pts.length by omega]⟩ ?_
  refine CJ_reg ?_
  refine LJ_y rfl rfl (YJ_move rfl) ?_
  refine LJ_y rfl rfl (YJ_move rfl) ?_
  refine LJ_y rfl rfl (YJ_move rfl) ?_
  refine LJ_y rfl rfl (YJ_move rfl) ?_
  refine LJ_call1 0 rfl rfl rfl rfl rfl rfl (make_c (a := (a : Int)) (b := (b : Int)) (c := (c : Int)) (by simp [newM0, MD.make, MD.link]; try omega) (by simp [newM0, MD.make, MD.link]; try omega) (by simp [newM0, MD.make, MD.link]; try omega) (by simp [newM0, MD.make, MD.link, setAt_len]; try omega) (by simp [newM0, MD.make, MD.link, setAt_len]; try omega) (by simp [newM0, MD.make, MD.link, setAt_len]; try omega) (by simp [newM0, MD.make, MD.link, setAt_len]; try omega)) (fun _ h => nomatch h) ?_
  show LJ _ _ _ _ _ (_ :: _) _
  refine LJ_val (v := .int .i64 0) (rfl) ?_
  refine LJ_y rfl rfl (YJ_assign rfl) ?_
  refine LJ_nil ?_
  refine QJ_then ?_
  refine CJ_seq ?_
  refine CJ_reg ?_
  refine LJ_y rfl rfl (YJ_move rfl) ?_
  refine LJ_y rfl rfl (YJ_move rfl) ?_
  refine LJ_y rfl rfl (YJ_move rfl) ?_
  refine LJ_y rfl rfl (YJ_build1 (cs := [_, _, _]) lay_34 rfl rfl rfl) ?_
  refine LJ_alloc (cs := #[_, _, _]) rfl rfl zer_34 rfl ?_
  intro b3
  refine LJ_store (cs' := #[_, _, _]) (μ' := [_, _]) 0 rfl rfl rfl rfl tyi_34 rfl (Nat.le_of_ble_eq_true rfl) rfl rfl rfl ?_
  refine LJ_nil ?_
  refine QJ_then ?_
  refine CJ_seq ?_
  refine CJ_reg ?_
  refine LJ_alloc (cs := #[_, _, _]) rfl rfl zer_34 rfl ?_
  intro b4
  refine LJ_nil ?_
  refine QJ_then ?_
  refine CJ_seq ?_
  refine CJ_seq ?_
  refine CJ_reg ?_
  refine LJ_y rfl rfl (YJ_move rfl) ?_
  refine LJ_nil ?_
  refine QJ_then ?_
  refine CJ_block ?_
  refine CJ_loopN 4 ?_
  refine CN_succ ?_
  refine CJ_seq ?_
  refine CJ_reg ?_
  refine LJ_y rfl rfl (YJ_bin rfl rfl rfl) ?_
  refine LJ_nil ?_
  refine QJ_then ?_
  refine CJ_seq ?_
  refine CJ_condT rfl ?_
  refine CJ_skip ?_
  refine QJ_then ?_
  refine CJ_seq ?_
  refine CJ_block ?_
  refine CJ_seq ?_
  refine CJ_reg ?_
  refine LJ_y rfl rfl (YJ_move rfl) ?_
  refine LJ_y rfl rfl (YJ_assign rfl) ?_
  refine LJ_nil ?_
  refine QJ_then ?_
  refine CJ_seq ?_
  refine CJ_regD mix (by kernel_rfl) (fun _ _ _ _ _ h => h) (selR [1] _) _ (selR_sub _ _) (fun _ h => h) ?_
  refine AJ_y 0 rfl (by kernel_rfl) (by kernel_rfl) rfl rfl (YJ_move rfl) ?_
  refine AJ_y 1 rfl (by kernel_rfl) (by kernel_rfl) rfl rfl (YJ_move rfl) ?_
  refine AJ_y 2 rfl (by kernel_rfl) (by kernel_rfl) rfl rfl (YJ_move rfl) ?_
  refine AJ_y 3 rfl (by kernel_rfl) (by kernel_rfl) rfl rfl (YJ_bin rfl rfl (iop_add (by omega))) ?_
  refine AJ_y 4 rfl (by kernel_rfl) (by kernel_rfl) rfl rfl (YJ_rem rfl rfl (by first | decide | omega)) ?_
  refine AJ_val (v := .int .i64 2) (rfl) ?_
  refine AJ_y 5 rfl (by kernel_rfl) (by kernel_rfl) rfl rfl (YJ_ixArr rfl rfl arrt_34 (by omega) (by omega) rfl) ?_
  refine AJ_y 6 rfl (by kernel_rfl) (by kernel_rfl) rfl rfl (YJ_loadL rfl tyi_3 m0 rfl) ?_
  refine AJ_y 7 rfl (by kernel_rfl) (by kernel_rfl) rfl rfl (YJ_move rfl) ?_
  refine AJ_y 8 rfl (by kernel_rfl) (by kernel_rfl) rfl rfl (YJ_bin rfl rfl (iop_add (by omega))) ?_
  refine AJ_y 9 rfl (by kernel_rfl) (by kernel_rfl) rfl rfl (YJ_rem rfl rfl (by first | decide | omega)) ?_
  refine AJ_val (v := .int .i64 1) (rfl) ?_
  refine AJ_y 10 rfl (by kernel_rfl) (by kernel_rfl) rfl rfl (YJ_ixArr rfl rfl arrt_34 (by omega) (by omega) rfl) ?_
  refine AJ_y 11 rfl (by kernel_rfl) (by kernel_rfl) rfl rfl (YJ_loadL rfl tyi_3 m0 rfl) ?_
  refine AJ_call1 12 2 rfl (by kernel_rfl) rfl rfl rfl rfl rfl rfl (make_c (a := (c : Int)) (b := (b : Int)) (c := (-1)) (by simp [newM0, MD.make, MD.link]; try omega) (by simp [newM0, MD.make, MD.link]; try omega) (by simp [newM0, MD.make, MD.link]; try omega) (by simp [newM0, MD.make, MD.link, setAt_len]; try omega) (by simp [newM0, MD.make, MD.link, setAt_len]; try omega) (by simp [newM0, MD.make, MD.link, setAt_len]; try omega) (by simp [newM0, MD.make, MD.link, setAt_len]; try omega)) (fun _ h => nomatch h) (AllIn.sub (And.intro m1 (trivial))) ?_
  show AJ _ _ _ _ _ _ _ _ (_ :: _ :: _ :: _) _
  refine AJ_val (v := .int .i64 1) (rfl) ?_
  refine AJ_y 13 rfl (by kernel_rfl) (by kernel_rfl) rfl rfl (YJ_ixArr rfl rfl arrt_34 (by omega) (by omega) rfl) ?_
  refine AJ_store (cs' := #[_, _, _]) (μ' := [_, _, _]) 14 0 rfl (by kernel_rfl) rfl rfl rfl rfl tyi_3 rfl (Nat.le_of_ble_eq_true rfl) rfl rfl rfl (fun _ => AllIn.sub (And.intro m1 (trivial))) ?_
  refine AJ_done (by kernel_rfl) ?_
  refine QJ_then ?_
  refine CJ_reg ?_
  refine LJ_y rfl rfl (YJ_move rfl) ?_
  refine LJ_y rfl rfl (YJ_move rfl) ?_
  refine LJ_y rfl rfl (YJ_move rfl) ?_
  refine LJ_y rfl rfl (YJ_move rfl) ?_
  refine LJ_y rfl rfl (YJ_ixArr rfl rfl arrt_34 (by omega) (by omega) rfl) ?_
  refine LJ_y rfl rfl (YJ_loadL rfl tyi_3 m0 rfl) ?_
  refine LJ_call1 2 rfl rfl rfl rfl rfl rfl (link_c (t := 0) (i := 0) (u := 1) (j := 2) (f := false) (by simp [newM0, MD.make, MD.link]; try omega) (by simp [newM0, MD.make, MD.link]; try omega) (by decide) (by decide)) (fun _ h => nomatch h) ?_
  show LJ _ _ _ _ _ (_ :: _ :: _ :: _) _
  refine LJ_nil ?_
  refine QJ_in_normal ?_
  refine QJ_then ?_
  refine CJ_reg ?_
  refine LJ_y rfl rfl (YJ_bin rfl rfl (iop_add (by omega))) ?_
  refine LJ_y rfl rfl (YJ_move rfl) ?_
  refine LJ_nil ?_
  refine QJ_thenN ?_
  refine CN_succ ?_
  refine CJ_seq ?_
  refine CJ_reg ?_
  refine LJ_y rfl rfl (YJ_bin rfl rfl rfl) ?_
  refine LJ_nil ?_
  refine QJ_then ?_
  refine CJ_seq ?_
  refine CJ_condT rfl ?_
  refine CJ_skip ?_
  refine QJ_then ?_
  refine CJ_seq ?_
  refine CJ_block ?_
  refine CJ_seq ?_
  refine CJ_reg ?_
  refine LJ_y rfl rfl (YJ_move rfl) ?_
  refine LJ_y rfl rfl (YJ_assign rfl) ?_
  refine LJ_nil ?_
  refine QJ_then ?_
  refine CJ_seq ?_
  refine CJ_regD mix (by kernel_rfl) (fun _ _ _ _ _ h => h) (selR [1] _) _ (selR_sub _ _) (fun _ h => h) ?_
  refine AJ_y 0 rfl (by kernel_rfl) (by kernel_rfl) rfl rfl (YJ_move rfl) ?_
  refine AJ_y 1 rfl (by kernel_rfl) (by kernel_rfl) rfl rfl (YJ_move rfl) ?_
  refine AJ_y 2 rfl (by kernel_rfl) (by kernel_rfl) rfl rfl (YJ_move rfl) ?_
  refine AJ_y 3 rfl (by kernel_rfl) (by kernel_rfl) rfl rfl (YJ_bin rfl rfl (iop_add (by omega))) ?_
  refine AJ_y 4 rfl (by kernel_rfl) (by kernel_rfl) rfl rfl (YJ_rem rfl rfl (by first | decide | omega)) ?_
  refine AJ_val (v := .int .i64 0) (rfl) ?_
  refine AJ_y 5 rfl (by kernel_rfl) (by kernel_rfl) rfl rfl (YJ_ixArr rfl rfl arrt_34 (by omega) (by omega) rfl) ?_
  refine AJ_y 6 rfl (by kernel_rfl) (by kernel_rfl) rfl rfl (YJ_loadL rfl tyi_3 m0 rfl) ?_
  refine AJ_y 7 rfl (by kernel_rfl) (by kernel_rfl) rfl rfl (YJ_move rfl) ?_
  refine AJ_y 8 rfl (by kernel_rfl) (by kernel_rfl) rfl rfl (YJ_bin rfl rfl (iop_add (by omega))) ?_
  refine AJ_y 9 rfl (by kernel_rfl) (by kernel_rfl) rfl rfl (YJ_rem rfl rfl (by first | decide | omega)) ?_
  refine AJ_val (v := .int .i64 2) (rfl) ?_
  refine AJ_y 10 rfl (by kernel_rfl) (by kernel_rfl) rfl rfl (YJ_ixArr rfl rfl arrt_34 (by omega) (by omega) rfl) ?_
  refine AJ_y 11 rfl (by kernel_rfl) (by kernel_rfl) rfl rfl (YJ_loadL rfl tyi_3 m0 rfl) ?_
  refine AJ_call1 12 2 rfl (by kernel_rfl) rfl rfl rfl rfl rfl rfl (make_c (a := (a : Int)) (b := (c : Int)) (c := (-1)) (by simp [newM0, MD.make, MD.link]; try omega) (by simp [newM0, MD.make, MD.link]; try omega) (by simp [newM0, MD.make, MD.link]; try omega) (by simp [newM0, MD.make, MD.link, setAt_len]; try omega) (by simp [newM0, MD.make, MD.link, setAt_len]; try omega) (by simp [newM0, MD.make, MD.link, setAt_len]; try omega) (by simp [newM0, MD.make, MD.link, setAt_len]; try omega)) (fun _ h => nomatch h) (AllIn.sub (And.intro m1 (trivial))) ?_
  show AJ _ _ _ _ _ _ _ _ (_ :: _ :: _ :: _) _
  refine AJ_val (v := .int .i64 2) (rfl) ?_
  refine AJ_y 13 rfl (by kernel_rfl) (by kernel_rfl) rfl rfl (YJ_ixArr rfl rfl arrt_34 (by omega) (by omega) rfl) ?_
  refine AJ_store (cs' := #[_, _, _]) (μ' := [_, _, _]) 14 0 rfl (by kernel_rfl) rfl rfl rfl rfl tyi_3 rfl (Nat.le_of_ble_eq_true rfl) rfl rfl rfl (fun _ => AllIn.sub (And.intro m1 (trivial))) ?_
  refine AJ_done (by kernel_rfl) ?_
  refine QJ_then ?_
  refine CJ_reg ?_
  refine LJ_y rfl rfl (YJ_move rfl) ?_
  refine LJ_y rfl rfl (YJ_move rfl) ?_
  refine LJ_y rfl rfl (YJ_move rfl) ?_
  refine LJ_y rfl rfl (YJ_move rfl) ?_
  refine LJ_y rfl rfl (YJ_ixArr rfl rfl arrt_34 (by omega) (by omega) rfl) ?_
  refine LJ_y rfl rfl (YJ_loadL rfl tyi_3 m0 rfl) ?_
  refine LJ_call1 2 rfl rfl rfl rfl rfl rfl (link_c (t := 0) (i := 1) (u := 2) (j := 2) (f := false) (by simp [newM0, MD.make, MD.link]; try omega) (by simp [newM0, MD.make, MD.link]; try omega) (by decide) (by decide)) (fun _ h => nomatch h) ?_
  show LJ _ _ _ _ _ (_ :: _ :: _ :: _) _
  refine LJ_nil ?_
  refine QJ_in_normal ?_
  refine QJ_then ?_
  refine CJ_reg ?_
  refine LJ_y rfl rfl (YJ_bin rfl rfl (iop_add (by omega))) ?_
  refine LJ_y rfl rfl (YJ_move rfl) ?_
  refine LJ_nil ?_
  refine QJ_thenN ?_
  refine CN_succ ?_
  refine CJ_seq ?_
  refine CJ_reg ?_
  refine LJ_y rfl rfl (YJ_bin rfl rfl rfl) ?_
  refine LJ_nil ?_
  refine QJ_then ?_
  refine CJ_seq ?_
  refine CJ_condT rfl ?_
  refine CJ_skip ?_
  refine QJ_then ?_
  refine CJ_seq ?_
  refine CJ_block ?_
  refine CJ_seq ?_
  refine CJ_reg ?_
  refine LJ_y rfl rfl (YJ_move rfl) ?_
  refine LJ_y rfl rfl (YJ_assign rfl) ?_
  refine LJ_nil ?_
  refine QJ_then ?_
  refine CJ_seq ?_
  refine CJ_regD mix (by kernel_rfl) (fun _ _ _ _ _ h => h) (selR [1] _) _ (selR_sub _ _) (fun _ h => h) ?_
  refine AJ_y 0 rfl (by kernel_rfl) (by kernel_rfl) rfl rfl (YJ_move rfl) ?_
  refine AJ_y 1 rfl (by kernel_rfl) (by kernel_rfl) rfl rfl (YJ_move rfl) ?_
  refine AJ_y 2 rfl (by kernel_rfl) (by kernel_rfl) rfl rfl (YJ_move rfl) ?_
  refine AJ_y 3 rfl (by kernel_rfl) (by kernel_rfl) rfl rfl (YJ_bin rfl rfl (iop_add (by omega))) ?_
  refine AJ_y 4 rfl (by kernel_rfl) (by kernel_rfl) rfl rfl (YJ_rem rfl rfl (by first | decide | omega)) ?_
  refine AJ_val (v := .int .i64 1) (rfl) ?_
  refine AJ_y 5 rfl (by kernel_rfl) (by kernel_rfl) rfl rfl (YJ_ixArr rfl rfl arrt_34 (by omega) (by omega) rfl) ?_
  refine AJ_y 6 rfl (by kernel_rfl) (by kernel_rfl) rfl rfl (YJ_loadL rfl tyi_3 m0 rfl) ?_
  refine AJ_y 7 rfl (by kernel_rfl) (by kernel_rfl) rfl rfl (YJ_move rfl) ?_
  refine AJ_y 8 rfl (by kernel_rfl) (by kernel_rfl) rfl rfl (YJ_bin rfl rfl (iop_add (by omega))) ?_
  refine AJ_y 9 rfl (by kernel_rfl) (by kernel_rfl) rfl rfl (YJ_rem rfl rfl (by first | decide | omega)) ?_
  refine AJ_val (v := .int .i64 0) (rfl) ?_
  refine AJ_y 10 rfl (by kernel_rfl) (by kernel_rfl) rfl rfl (YJ_ixArr rfl rfl arrt_34 (by omega) (by omega) rfl) ?_
  refine AJ_y 11 rfl (by kernel_rfl) (by kernel_rfl) rfl rfl (YJ_loadL rfl tyi_3 m0 rfl) ?_
  refine AJ_call1 12 2 rfl (by kernel_rfl) rfl rfl rfl rfl rfl rfl (make_c (a := (b : Int)) (b := (a : Int)) (c := (-1)) (by simp [newM0, MD.make, MD.link]; try omega) (by simp [newM0, MD.make, MD.link]; try omega) (by simp [newM0, MD.make, MD.link]; try omega) (by simp [newM0, MD.make, MD.link, setAt_len]; try omega) (by simp [newM0, MD.make, MD.link, setAt_len]; try omega) (by simp [newM0, MD.make, MD.link, setAt_len]; try omega) (by simp [newM0, MD.make, MD.link, setAt_len]; try omega)) (fun _ h => nomatch h) (AllIn.sub (And.intro m1 (trivial))) ?_
  show AJ _ _ _ _ _ _ _ _ (_ :: _ :: _ :: _) _
  refine AJ_val (v := .int .i64 3) (rfl) ?_
  refine AJ_y 13 rfl (by kernel_rfl) (by kernel_rfl) rfl rfl (YJ_ixArr rfl rfl arrt_34 (by omega) (by omega) rfl) ?_
  refine AJ_store (cs' := #[_, _, _]) (μ' := [_, _, _]) 14 0 rfl (by kernel_rfl) rfl rfl rfl rfl tyi_3 rfl (Nat.le_of_ble_eq_true rfl) rfl rfl rfl (fun _ => AllIn.sub (And.intro m1 (trivial))) ?_
  refine AJ_done (by kernel_rfl) ?_
  refine QJ_then ?_
  refine CJ_reg ?_
  refine LJ_y rfl rfl (YJ_move rfl) ?_
  refine LJ_y rfl rfl (YJ_move rfl) ?_
  refine LJ_y rfl rfl (YJ_move rfl) ?_
  refine LJ_y rfl rfl (YJ_move rfl) ?_
  refine LJ_y rfl rfl (YJ_ixArr rfl rfl arrt_34 (by omega) (by omega) rfl) ?_
  refine LJ_y rfl rfl (YJ_loadL rfl tyi_3 m0 rfl) ?_
  refine LJ_call1 2 rfl rfl rfl rfl rfl rfl (link_c (t := 0) (i := 2) (u := 3) (j := 2) (f := false) (by simp [newM0, MD.make, MD.link]; try omega) (by simp [newM0, MD.make, MD.link]; try omega) (by decide) (by decide)) (fun _ h => nomatch h) ?_
  show LJ _ _ _ _ _ (_ :: _ :: _ :: _) _
  refine LJ_nil ?_
  refine QJ_in_normal ?_
  refine QJ_then ?_
  refine CJ_reg ?_
  refine LJ_y rfl rfl (YJ_bin rfl rfl (iop_add (by omega))) ?_
  refine LJ_y rfl rfl (YJ_move rfl) ?_
  refine LJ_nil ?_
  refine QJ_thenN ?_
  refine CN_succ ?_
  refine CJ_seq ?_
  refine CJ_reg ?_
  refine LJ_y rfl rfl (YJ_bin rfl rfl rfl) ?_
  refine LJ_nil ?_
  refine QJ_then ?_
  refine CJ_seq ?_
  refine CJ_condF rfl ?_
  refine CJ_exit ?_
  refine QJ_then_exit ?_
  refine QJ_then_exit ?_
  refine QJ_in_exit ?_
  refine QJ_then ?_
  refine CJ_seq ?_
  refine CJ_seq ?_
  refine CJ_reg ?_
  refine LJ_y rfl rfl (YJ_move rfl) ?_
  refine LJ_nil ?_
  refine QJ_then ?_
  refine CJ_block ?_
  refine CJ_loopN 4 ?_
  refine CN_succ ?_
  refine CJ_seq ?_
  refine CJ_reg ?_
  refine LJ_y rfl rfl (YJ_bin rfl rfl rfl) ?_
  refine LJ_nil ?_
  refine QJ_then ?_
  refine CJ_seq ?_
  refine CJ_condT rfl ?_
  refine CJ_skip ?_
  refine QJ_then ?_
  refine CJ_seq ?_
  refine CJ_block ?_
  refine CJ_seq ?_
  refine CJ_reg ?_
  refine LJ_y rfl rfl (YJ_move rfl) ?_
  refine LJ_y rfl rfl (YJ_assign rfl) ?_
  refine LJ_nil ?_
  refine QJ_then ?_
  refine CJ_regD mix (by kernel_rfl) (fun _ _ _ _ _ h => h) (selR [0, 1] _) _ (selR_sub _ _) (fun _ h => h) ?_
  refine AJ_y 0 rfl (by kernel_rfl) (by kernel_rfl) rfl rfl (YJ_move rfl) ?_
  refine AJ_y 1 rfl (by kernel_rfl) (by kernel_rfl) rfl rfl (YJ_move rfl) ?_
  refine AJ_y 2 rfl (by kernel_rfl) (by kernel_rfl) rfl rfl (YJ_ixArr rfl rfl arrt_34 (by omega) (by omega) rfl) ?_
  refine AJ_y 3 rfl (by kernel_rfl) (by kernel_rfl) rfl rfl (YJ_loadL rfl tyi_3 m0 rfl) ?_
  refine AJ_y 4 rfl (by kernel_rfl) (by kernel_rfl) rfl rfl (YJ_move rfl) ?_
  refine AJ_y 5 rfl (by kernel_rfl) (by kernel_rfl) rfl rfl (YJ_bin rfl rfl (iop_add (by omega))) ?_
  refine AJ_y 6 rfl (by kernel_rfl) (by kernel_rfl) rfl rfl (YJ_rem rfl rfl (by first | decide | omega)) ?_
  refine AJ_val (v := .int .i64 1) (rfl) ?_
  refine AJ_y 7 rfl (by kernel_rfl) (by kernel_rfl) rfl rfl (YJ_ixArr rfl rfl arrt_34 (by omega) (by omega) rfl) ?_
  refine AJ_y 8 rfl (by kernel_rfl) (by kernel_rfl) rfl rfl (YJ_loadL rfl tyi_3 m0 rfl) ?_
  refine AJ_call1 9 2 rfl (by kernel_rfl) rfl rfl rfl rfl rfl rfl (link_c (t := 1) (i := 1) (u := 2) (j := 0) (f := false) (by simp [newM0, MD.make, MD.link]; try omega) (by simp [newM0, MD.make, MD.link]; try omega) (by decide) (by decide)) (fun _ h => nomatch h) (AllIn.sub (And.intro m0 (And.intro m1 (trivial)))) ?_
  show AJ _ _ _ _ _ _ _ _ (_ :: _ :: _ :: _) _
  refine AJ_done (by kernel_rfl) ?_
  refine QJ_in_normal ?_
  refine QJ_then ?_
  refine CJ_reg ?_
  refine LJ_y rfl rfl (YJ_bin rfl rfl (iop_add (by omega))) ?_
  refine LJ_y rfl rfl (YJ_move rfl) ?_
  refine LJ_nil ?_
  refine QJ_thenN ?_
  refine CN_succ ?_
  refine CJ_seq ?_
  refine CJ_reg ?_
  refine LJ_y rfl rfl (YJ_bin rfl rfl rfl) ?_
  refine LJ_nil ?_
  refine QJ_then ?_
  refine CJ_seq ?_
  refine CJ_condT rfl ?_
  refine CJ_skip ?_
  refine QJ_then ?_
  refine CJ_seq ?_
  refine CJ_block ?_
  refine CJ_seq ?_
  refine CJ_reg ?_
  refine LJ_y rfl rfl (YJ_move rfl) ?_
  refine LJ_y rfl rfl (YJ_assign rfl) ?_
  refine LJ_nil ?_
  refine QJ_then ?_
  refine CJ_regD mix (by kernel_rfl) (fun _ _ _ _ _ h => h) (selR [0, 1] _) _ (selR_sub _ _) (fun _ h => h) ?_
  refine AJ_y 0 rfl (by kernel_rfl) (by kernel_rfl) rfl rfl (YJ_move rfl) ?_
  refine AJ_y 1 rfl (by kernel_rfl) (by kernel_rfl) rfl rfl (YJ_move rfl) ?_
  refine AJ_y 2 rfl (by kernel_rfl) (by kernel_rfl) rfl rfl (YJ_ixArr rfl rfl arrt_34 (by omega) (by omega) rfl) ?_
  refine AJ_y 3 rfl (by kernel_rfl) (by kernel_rfl) rfl rfl (YJ_loadL rfl tyi_3 m0 rfl) ?_
  refine AJ_y 4 rfl (by kernel_rfl) (by kernel_rfl) rfl rfl (YJ_move rfl) ?_
  refine AJ_y 5 rfl (by kernel_rfl) (by kernel_rfl) rfl rfl (YJ_bin rfl rfl (iop_add (by omega))) ?_
  refine AJ_y 6 rfl (by kernel_rfl) (by kernel_rfl) rfl rfl (YJ_rem rfl rfl (by first | decide | omega)) ?_
  refine AJ_val (v := .int .i64 2) (rfl) ?_
  refine AJ_y 7 rfl (by kernel_rfl) (by kernel_rfl) rfl rfl (YJ_ixArr rfl rfl arrt_34 (by omega) (by omega) rfl) ?_
  refine AJ_y 8 rfl (by kernel_rfl) (by kernel_rfl) rfl rfl (YJ_loadL rfl tyi_3 m0 rfl) ?_
  refine AJ_call1 9 2 rfl (by kernel_rfl) rfl rfl rfl rfl rfl rfl (link_c (t := 2) (i := 1) (u := 3) (j := 0) (f := false) (by simp [newM0, MD.make, MD.link]; try omega) (by simp [newM0, MD.make, MD.link]; try omega) (by decide) (by decide)) (fun _ h => nomatch h) (AllIn.sub (And.intro m0 (And.intro m1 (trivial)))) ?_
  show AJ _ _ _ _ _ _ _ _ (_ :: _ :: _ :: _) _
  refine AJ_done (by kernel_rfl) ?_
  refine QJ_in_normal ?_
  refine QJ_then ?_
  refine CJ_reg ?_
  refine LJ_y rfl rfl (YJ_bin rfl rfl (iop_add (by omega))) ?_
  refine LJ_y rfl rfl (YJ_move rfl) ?_
  refine LJ_nil ?_
  refine QJ_thenN ?_
  refine CN_succ ?_
  refine CJ_seq ?_
  refine CJ_reg ?_
  refine LJ_y rfl rfl (YJ_bin rfl rfl rfl) ?_
  refine LJ_nil ?_
  refine QJ_then ?_
  refine CJ_seq ?_
  refine CJ_condT rfl ?_
  refine CJ_skip ?_
  refine QJ_then ?_
  refine CJ_seq ?_
  refine CJ_block ?_
  refine CJ_seq ?_
  refine CJ_reg ?_
  refine LJ_y rfl rfl (YJ_move rfl) ?_
  refine LJ_y rfl rfl (YJ_assign rfl) ?_
  refine LJ_nil ?_
  refine QJ_then ?_
  refine CJ_regD mix (by kernel_rfl) (fun _ _ _ _ _ h => h) (selR [0, 1] _) _ (selR_sub _ _) (fun _ h => h) ?_
  refine AJ_y 0 rfl (by kernel_rfl) (by kernel_rfl) rfl rfl (YJ_move rfl) ?_
  refine AJ_y 1 rfl (by kernel_rfl) (by kernel_rfl) rfl rfl (YJ_move rfl) ?_
  refine AJ_y 2 rfl (by kernel_rfl) (by kernel_rfl) rfl rfl (YJ_ixArr rfl rfl arrt_34 (by omega) (by omega) rfl) ?_
  refine AJ_y 3 rfl (by kernel_rfl) (by kernel_rfl) rfl rfl (YJ_loadL rfl tyi_3 m0 rfl) ?_
  refine AJ_y 4 rfl (by kernel_rfl) (by kernel_rfl) rfl rfl (YJ_move rfl) ?_
  refine AJ_y 5 rfl (by kernel_rfl) (by kernel_rfl) rfl rfl (YJ_bin rfl rfl (iop_add (by omega))) ?_
  refine AJ_y 6 rfl (by kernel_rfl) (by kernel_rfl) rfl rfl (YJ_rem rfl rfl (by first | decide | omega)) ?_
  refine AJ_val (v := .int .i64 0) (rfl) ?_
  refine AJ_y 7 rfl (by kernel_rfl) (by kernel_rfl) rfl rfl (YJ_ixArr rfl rfl arrt_34 (by omega) (by omega) rfl) ?_
  refine AJ_y 8 rfl (by kernel_rfl) (by kernel_rfl) rfl rfl (YJ_loadL rfl tyi_3 m0 rfl) ?_
  refine AJ_call1 9 2 rfl (by kernel_rfl) rfl rfl rfl rfl rfl rfl (link_c (t := 3) (i := 1) (u := 1) (j := 0) (f := false) (by simp [newM0, MD.make, MD.link]; try omega) (by simp [newM0, MD.make, MD.link]; try omega) (by decide) (by decide)) (fun _ h => nomatch h) (AllIn.sub (And.intro m0 (And.intro m1 (trivial)))) ?_
  show AJ _ _ _ _ _ _ _ _ (_ :: _ :: _ :: _) _
  refine AJ_done (by kernel_rfl) ?_
  refine QJ_in_normal ?_
  refine QJ_then ?_
  refine CJ_reg ?_
  refine LJ_y rfl rfl (YJ_bin rfl rfl (iop_add (by omega))) ?_
  refine LJ_y rfl rfl (YJ_move rfl) ?_
  refine LJ_nil ?_
  refine QJ_thenN ?_
  refine CN_succ ?_
  refine CJ_seq ?_
  refine CJ_reg ?_
  refine LJ_y rfl rfl (YJ_bin rfl rfl rfl) ?_
  refine LJ_nil ?_
  refine QJ_then ?_
  refine CJ_seq ?_
  refine CJ_condF rfl ?_
  refine CJ_exit ?_
  refine QJ_then_exit ?_
  refine QJ_then_exit ?_
  refine QJ_in_exit ?_
  refine QJ_then ?_
  refine CJ_seq ?_
  refine CJ_reg ?_
  refine LJ_y rfl rfl (YJ_move rfl) ?_
  refine LJ_y rfl rfl (YJ_assign rfl) ?_
  refine LJ_y rfl rfl (YJ_assign rfl) ?_
  refine LJ_nil ?_
  refine QJ_then ?_
  refine CJ_ret ?_
  refine QJ_fin (.inl rfl) (μ' := [_]) (μr := [_, _]) (φ' := []) (res_tmp2 rfl rfl rfl) (permI [2] rfl) (fun _ h => nomatch h) ?_
  exact ⟨b1, trivial, rfl, rfl, rfl⟩
end Go.Proofs.Ytbanlhlggkdanaa
namespace Go.Proofs.Ytbanlhlggkdanaa
open Go.RowKit
section
variable {P : Program} (w : World)
theorem run_eqItems_ints {d : Nat} {e : TypeId} {k : IntKind} (he : tyi P e = some (false, 1)) (hk : P.underlying e = some (.int k)) (xs ys : List Int) : ∀ (is : List Nat), (∀ i ∈ is, i < xs.length ∧ i < ys.length) →
  (Op.eqItems (d + 1) e 1 (xs.map (Value.int k)).toArray (ys.map (Value.int k)).toArray is).run P w = .ok (is.all fun i => xs[i]? == ys[i]?) w
 | [], _ => by simp [Op.eqItems]
 | i :: is, h => by
  have h1 := h i (.head _)
  have ih := run_eqItems_ints (d := d) he hk xs ys is (fun j hj => h j (.tail _ hj))
  have p1 : (part e (xs.map (Value.int k)).toArray (i * 1)).run P w = .ok (.int k xs[i]) w := run_part1 he (by rw [lget_eq]; simp [h1.1]) w
  have p2 : (part e (ys.map (Value.int k)).toArray (i * 1)).run P w = .ok (.int k ys[i]) w := run_part1 he (by rw [lget_eq]; simp [h1.2]) w
  simp only [Op.eqItems, Sem.run_bind, p1, p2, Result.andThen_ok, run_equalIn_int w d e k k _ _ hk, List.all_cons]
  rw [List.getElem?_eq_getElem h1.1, List.getElem?_eq_getElem h1.2]
  by_cases e1 : xs[i] = ys[i]
  ·simp [e1, ih]
  ·simp [e1]
end
theorem run_eqArr2 {P : Program} (w : World) {t e : TypeId} {i : TypeInfo} (hu : P.underlying t = some (.array 2 e)) (hi : P.info? e = some i) (hs : P.cellsOf e = 1) (he : tyi P e = some (false, 1)) (hk : P.underlying e = some (.int .i64)) (a b c d : Int) :
  (Op.equalIn 10000 t (.agg #[.int .i64 a, .int .i64 b]) (.agg #[.int .i64 c, .int .i64 d])).run P w = .ok (decide (a = c) && decide (b = d)) w := by
 rw [show (10000 : Nat) = 9999 + 1 from rfl, run_equalIn_array w 9999 _ _ hu hi, hs]
 have := run_eqItems_ints (P := P) w (d := 9998) he hk [a, b] [c, d] (List.range 2) (fun i hi => by simpa using hi)
 refine Eq.trans this ?_
 simp [List.range_succ]
 by_cases h1 : a = c <;> by_cases h2 : b = d <;> simp [h1, h2]
theorem info_int : ∃ i, Try.prog.info? 3 = some i := Option.isSome_iff_exists.1 (by kernel_rfl)
end Go.Proofs.Ytbanlhlggkdanaa
namespace Go.Proofs.Ytbanlhlggkdanaa
open Go.RowKit
def hasV (t : Tr) (v : Int) : Prop := t.v0 = v ∨ t.v1 = v ∨ t.v2 = v
instance (t : Tr) (v : Int) : Decidable (hasV t v) := inferInstanceAs (Decidable (_ ∨ _))
theorem tm3 {k j : Nat} (hk : k < 3) (hj : j < 3) : ((k : Int) + (j : Int)).tmod 3 = (((k + j) % 3 : Nat) : Int) := by
 match k, hk, j, hj with
 | 0, _, 0, _ => rfl
 | 0, _, 1, _ => rfl
 | 0, _, 2, _ => rfl
 | 1, _, 0, _ => rfl
 | 1, _, 1, _ => rfl
 | 1, _, 2, _ => rfl
 | 2, _, 0, _ => rfl
 | 2, _, 1, _ => rfl
 | 2, _, 2, _ => rfl
theorem v_get {t : Tr} {j : Nat} (hj : j < 3) : (#[.int .i64 t.v0, .int .i64 t.v1, .int .i64 t.v2, .int .i64 t.n0, .int .i64 t.n1, .int .i64 t.n2, .bool t.f0, .bool t.f1, .bool t.f2] : Array Value)[0 + ((j : Nat) : Int).toNat * 1]? = some (.int .i64 (t.v j)) := by
 match j, hj with
 | 0, _ => rfl
 | 1, _ => rfl
 | 2, _ => rfl
theorem sgn_pos {n : Int} : 0 < sgn n ↔ 0 < n := by have := sgn_cases n; omega
end Go.Proofs.Ytbanlhlggkdanaa
namespace Go.Proofs.Ytbanlhlggkdanaa
open Go.RowKit
section
variable {E : Env} {Q : Qt} {σ : List (Nat × Value)} {μ φ : List Res} {ops : Array Oper} {rest : List Oper} {cd : Code} {B : Nat} {M : MD}
def frzFs (B : Nat) (M : MD) (h : Mh) : List Res := meshFs B h M.pts M.tris ++ [sliceR 1 h.F M.free.length (Iv M.free), sliceR 1 h.A M.ats.length (Iv M.ats)]
theorem OKm.freezeMesh {w : World} (hm : OKm E (meshR B M :: μ) φ w) : ∃ h : Mh, (h.nf = M.free.length ∧ h.na = M.ats.length ∧ (0 < M.tris.length → M.tris.length ≤ h.ct)) ∧ OKm E μ (frzFs B M h ++ φ) w := by
 obtain ⟨⟨P, cP, T, cT, F, cF, A, cA⟩, h1⟩ := hm.openEx
 have h2 : OKm E (cellsR B #[.slice P M.pts.length cP, .slice T M.tris.length cT, .slice F M.free.length cF, .slice A M.ats.length cA] 57 ::
  rowR 23 2 P M.pts.length cP (ptCells M.pts) :: rowR 37 9 T M.tris.length cT (trCells M.tris) :: rowR 3 1 F M.free.length cF (Iv M.free) :: rowR 3 1 A M.ats.length cA (Iv M.ats) :: μ) φ w := h1
 have h3 := h2.freeze.addF (r' := sliceR 4 (some ⟨B, 0, none⟩) 1 [.slice P M.pts.length cP, .slice T M.tris.length cT, .slice F M.free.length cF, .slice A M.ats.length cA]) (.head _) (fun S h => cellsR_slice (n := 1) rfl w S h)
 have h4 := h3.freezeRow.freezeRow.freezeRow.freezeRow
 refine ⟨⟨P, cP, T, cT, F, M.free.length, cF, A, M.ats.length, cA⟩, ⟨rfl, rfl, fun hn => let ⟨_, _, q⟩ := h2.rowSome (.tail _ (.tail _ (.head _))) hn; q⟩, h4.weak (μr := []) (by simp) ?_⟩
 intro r hr
 simp only [frzFs, meshFs, List.cons_append, List.nil_append, List.mem_cons] at hr
 simp only [List.mem_cons]
 rcases hr with h | h | h | h | h | h
 ·exact .inr (.inr (.inr (.inr (.inl h))))
 ·exact .inr (.inr (.inr (.inl h)))
 ·exact .inr (.inr (.inl h))
 ·exact .inr (.inl h)
 ·exact .inl h
 ·exact .inr (.inr (.inr (.inr (.inr (.inr h)))))
theorem LJ_freezeMesh (h : ∀ hm : Mh, hm.nf = M.free.length → hm.na = M.ats.length → LJ E Q ops rest σ μ (frzFs B M hm ++ φ)) : LJ E Q ops rest σ (meshR B M :: μ) φ := fun a w ha hm => let ⟨x, h1, h3⟩ := hm.freezeMesh; h x h1.1 h1.2.1 a w ha h3
theorem frz_mesh {h : Mh} : ∀ r, r ∈ meshFs B h M.pts M.tris → r ∈ frzFs B M h ++ φ := fun r hr => List.mem_append_left _ (List.mem_append_left _ hr)
end
theorem eqs_ptr (a : Addr) (x y : Operand) (w : World) :
  (do eqGuard .eql 28 x y (.pointer (some a)) (.pointer none); binOp .eql 28 (.pointer (some a)) (.pointer none) : Sem Value).run Try.prog w = .ok (.bool false) w := by
 simp only [Sem.run_bind]
 rw [show (eqGuard .eql 28 x y (.pointer (some a)) (.pointer none)) = pure () from rfl]
 simp only [Sem.run_pure, Result.andThen_ok]
 rw [run_eql_pointer_nil w 28 (some a) (by kernel_rfl)]
 rfl
def triNew (a b c : Int) : List Tr := [⟨a, b, c, 1, 2, 3, false, false, false⟩, ⟨c, b, -1, 3, 2, 0, false, false, false⟩, ⟨a, c, -1, 1, 3, 0, false, false, false⟩, ⟨b, a, -1, 2, 1, 0, false, false, false⟩]
end Go.Proofs.Ytbanlhlggkdanaa
namespace Go.Proofs.Ytbanlhlggkdanaa
open Go.RowKit Go.Sort
abbrev EdF := _root_.Fin 1024 × _root_.Fin 1024 × Bool × Bool
def encF (x : EdF) : List Value := [.int .i64 x.1.val, .int .i64 x.2.1.val, .bool x.2.2.1, .bool x.2.2.2]
def cfE (x y : EdF) : Int := if ((x.1.val : Nat) : Int) ≠ ((y.1.val : Nat) : Int) then ((x.1.val : Nat) : Int) - ((y.1.val : Nat) : Int) else ((x.2.1.val : Nat) : Int) - ((y.2.1.val : Nat) : Int)
set_option maxHeartbeats 1000000 in
theorem cmp75 (x y : EdF) (W : World) : Calls Try.prog 75 #[.agg (encF x).toArray, .agg (encF y).toArray] W fun e w' => e = .returned (.int .i64 (cfE x y)) ∧ ∃ q os', w' = grow (W.drewN q) os' := by
 obtain ⟨⟨a, ha⟩, ⟨b, hb⟩, f, g⟩ := x
 obtain ⟨⟨a', ha'⟩, ⟨b', hb'⟩, f', g'⟩ := y
 unfold cfE encF
 dsimp only
 by_cases hab : ((a : Nat) : Int) = ((a' : Nat) : Int)
 ·rw [if_neg (fun q => q hab)]
  have hd : (((a : Nat) : Int) != ((a' : Nat) : Int)) = false := by simp [hab]
  go_enter Try.func75, Try.ntmps75
  go_wp2
  all_goals first
   | (go_ret; exact ⟨rfl, 0, _, by rw [alloc_eq_grow, alloc_eq_grow, grow_grow]; rfl⟩)
   | (exfalso; simp_all; done)
 ·rw [if_pos hab]
  have hd : (((a : Nat) : Int) != ((a' : Nat) : Int)) = true := by simp [hab]
  go_enter Try.func75, Try.ntmps75
  go_wp2
  all_goals first
   | (go_ret; exact ⟨rfl, 0, _, by rw [alloc_eq_grow, alloc_eq_grow, grow_grow]; rfl⟩)
   | (exfalso; simp_all; done)
abbrev Ed := Int × Int × Bool × Bool
def Ed.cells (e : Ed) : List Value := [.int .i64 e.1, .int .i64 e.2.1, .bool e.2.2.1, .bool e.2.2.2]
def edCells (l : List Ed) : List Value := l.flatMap Ed.cells
theorem edCells_len : ∀ (l : List Ed), (edCells l).length = l.length * 4
 | [] => rfl
 | e :: l => by
  have := edCells_len l
  simp only [edCells, List.flatMap_cons, List.length_append, Ed.cells, List.length_cons, List.length_nil] at *
  omega
def Ed.ok (e : Ed) : Prop := (0 ≤ e.1 ∧ e.1 < 1024) ∧ 0 ≤ e.2.1 ∧ e.2.1 < 1024
def Ed.toF (e : Ed) : EdF := (⟨e.1.toNat % 1024, Nat.mod_lt _ (by decide)⟩, ⟨e.2.1.toNat % 1024, Nat.mod_lt _ (by decide)⟩, e.2.2.1, e.2.2.2)
def ofF (x : EdF) : Ed := (x.1.val, x.2.1.val, x.2.2.1, x.2.2.2)
theorem of_to {e : Ed} (h : e.ok) : ofF e.toF = e := by
 obtain ⟨a, b, f, g⟩ := e
 obtain ⟨⟨h1, h2⟩, h3, h4⟩ := h
 unfold ofF Ed.toF
 dsimp only at *
 rw [Nat.mod_eq_of_lt (by omega), Nat.mod_eq_of_lt (by omega), Int.toNat_of_nonneg h1, Int.toNat_of_nonneg h3]
theorem encF_cells (x : EdF) : encF x = (ofF x).cells := rfl
theorem flat_at {α : Type} (f : α → List Value) (hf : ∀ x, (f x).length = 4) : ∀ (l : List α) (i c : Nat), c < 4 → (l.flatMap f)[i * 4 + c]? = (l[i]?).bind fun x => (f x)[c]?
 | [], i, c, _ => by simp
 | x :: l, 0, c, hc => by
  rw [List.flatMap_cons, List.getElem?_append_left (by rw [hf]; omega)]
  simp
 | x :: l, i + 1, c, hc => by
  rw [List.flatMap_cons, List.getElem?_append_right (by rw [hf]; omega), hf, show (i + 1) * 4 + c - 4 = i * 4 + c by omega, flat_at f hf l i c hc]
  rfl
theorem flatK_list (l : List EdF) : (flatK encF 4 l.toArray).toList = l.flatMap encF := by
 have hlen : (l.flatMap encF).length = l.length * 4 := by
  have := edCells_len (l.map ofF)
  rw [edCells, List.flatMap_map, List.length_map] at this
  exact this
 refine List.ext_getElem? (fun t => ?_)
 rcases Nat.lt_or_ge t (l.length * 4) with ht | ht
 ·have h1 : t < (flatK encF 4 l.toArray).size := by rw [size_flatK]; simpa using ht
  have h2 : (flatK encF 4 l.toArray)[t]! = (encF l.toArray[t / 4]!)[t % 4]! := get_flatK encF 4 l.toArray t (by simpa using ht)
  rw [getElem!_pos _ t h1] at h2
  rw [Array.getElem?_toList, Array.getElem?_eq_getElem h1, h2]
  have h3 : t / 4 < l.length := by omega
  have h4 : t % 4 < 4 := Nat.mod_lt _ (by decide)
  have h5 := flat_at encF (fun _ => rfl) l (t / 4) (t % 4) h4
  rw [show t / 4 * 4 + t % 4 = t by omega] at h5
  rw [h5, List.getElem?_eq_getElem h3, Option.bind_some]
  have h6 : l.toArray[t / 4]! = l[t / 4] := by rw [getElem!_pos _ _ (by simpa using h3)]; simp
  rw [h6, List.getElem?_eq_getElem (show t % 4 < (encF l[t / 4]).length from h4), getElem!_pos (encF l[t / 4]) (t % 4) (show t % 4 < (encF l[t / 4]).length from h4)]
 ·rw [List.getElem?_eq_none (by rw [Array.length_toList, size_flatK]; simpa using ht), List.getElem?_eq_none (by rw [hlen]; exact ht)]
theorem flatK_ed {l : List Ed} (h : ∀ e, e ∈ l → e.ok) : (flatK encF 4 (l.map Ed.toF).toArray).toList = edCells l := by
 rw [flatK_list, List.flatMap_map, edCells]
 have : ∀ (l : List Ed), (∀ e, e ∈ l → e.ok) → l.flatMap (fun e => encF e.toF) = l.flatMap Ed.cells := by
  intro l
  induction l with
  | nil => intro _; rfl
  | cons e l ih =>
   intro h
   rw [List.flatMap_cons, List.flatMap_cons, ih (fun x hx => h x (.tail _ hx)), encF_cells, of_to (h e (.head _))]
 exact this l h
def edLt (x y : Ed) : Prop := x.1 < y.1 ∨ (x.1 = y.1 ∧ x.2.1 < y.2.1)
theorem cfE_lt (x y : EdF) : (decide (cfE x y < 0) = true) ↔ edLt (ofF x) (ofF y) := by
 unfold cfE edLt ofF
 dsimp only
 rw [decide_eq_true_eq]
 split <;> omega
theorem swoE : SWO (fun x y => decide (cfE x y < 0)) where
 irrefl x := by
  rw [← Bool.not_eq_true, cfE_lt]
  unfold edLt
  omega
 trans x y z h1 h2 := by
  rw [cfE_lt] at *
  unfold edLt at *
  omega
 ntrans x y z h1 h2 := by
  rw [← Bool.not_eq_true, cfE_lt] at *
  unfold edLt at *
  omega
theorem put_cells (flat cur : Array Value) (h : flat.size ≤ cur.size) : (putCells id 0 flat cur).size = cur.size ∧ (putCells id 0 flat cur).toList.take flat.size = flat.toList := by
 refine ⟨by simp [putCells], List.ext_getElem? (fun t => ?_)⟩
 rw [List.getElem?_take]
 split
 ·rename_i ht
  rw [Array.getElem?_toList, Array.getElem?_toList]
  unfold putCells
  rw [Array.getElem?_mapIdx, Array.getElem?_eq_getElem (by omega), Array.getElem?_eq_getElem ht, Option.map_some, if_pos ⟨Nat.zero_le _, by omega⟩, Nat.sub_zero, getElem!_pos flat t ht]
  rfl
 ·rename_i ht
  rw [List.getElem?_eq_none (by rw [Array.length_toList]; omega)]
theorem ent_74' : Enter Try.prog 74 = true := by kernel_rfl
theorem sort_tri {A : Option Addr} {c : Nat} {l : List Ed} (h0 : 0 < l.length) (h1 : l.length ≤ 100000) (hb : ∀ e, e ∈ l → e.ok)
  (hcon : ∀ (g cap : Nat) (d : Array EdF) (w : World), HoldsK encF 4 w g 0 d → g < w.heap.size → d.size < 4611686018427387904 → Calls Try.prog 74 #[.slice (some ⟨g, 0, none⟩) d.size cap, .func (.func 75) #[] #[]] w fun e w' =>
   e = .returned (.tuple #[]) ∧ ∃ d' n os, PermIn 0 d.size d d' ∧ SortedIn (fun x y => decide (cfE x y < 0)) 0 d.size d' ∧ w' = grow (putRowK encF 4 (Sort.ahead w n) g 0 d') os) :
  Tri Try.prog 74 [.slice A l.length c, .func (.func 75) #[] #[]] [rowR 95 4 A l.length c (edCells l)] [] (RetX (fun l' : List Ed => l'.Perm l ∧ l'.Pairwise (fun x y => ¬ edLt y x)) (fun _ => .tuple #[]) (fun l' => [rowR 95 4 A l.length c (edCells l')]) (fun _ => [])) := by
 refine ⟨ent_74', fun w S T hS hT hd hTl => ?_⟩
 obtain ⟨S1, S2, ⟨hx, hrow⟩, hn, _, hs⟩ := hS
 rcases hrow with ⟨_, hz, _⟩ | ⟨g, cur, rfl, hg, hh, hnc, hcm, hsz, htk⟩
 ·omega
 have hgl : g < w.heap.size := (Array.getElem?_eq_some_iff.1 hh).1
 have hSg : ∀ k, S k ↔ k = g := fun k => by
  rw [hs k, hg k]
  exact ⟨fun h => h.resolve_right (hn k), .inl⟩
 obtain ⟨d, hdd⟩ : ∃ d, (l.map Ed.toF).toArray = d := ⟨_, rfl⟩
 have hds : d.size = l.length := by rw [← hdd]; simp
 have hfl : (flatK encF 4 d).toList = edCells l := by rw [← hdd]; exact flatK_ed hb
 have hle : l.length * 4 ≤ cur.size := by rw [hsz]; omega
 have hH : HoldsK encF 4 w g 0 d := fun j hj => by
  rw [size_flatK, hds] at hj
  refine ⟨?_, frozen_of_row w g _ cur 95 hh⟩
  rw [cell_of_row w g _ cur 95 (0, 0) hh, Nat.zero_add]
  have hj2 : j < (flatK encF 4 d).size := by rw [size_flatK, hds]; exact hj
  rw [getElem!_pos (flatK encF 4 d) j hj2]
  have e1 : (edCells l)[j]? = cur[j]? := by
   rw [← htk, List.getElem?_take, if_pos hj, Array.getElem?_toList]
  have e2 : (flatK encF 4 d)[j]? = (edCells l)[j]? := by rw [← hfl, Array.getElem?_toList]
  rw [← e1, ← e2, Array.getElem?_eq_getElem hj2]
  rfl
 have hc := hcon g c d w hH hgl (by omega)
 rw [hds] at hc
 refine hc.mono ?_
 rintro e w' ⟨rfl, d', n, os, hp, hso, rfl⟩
 obtain ⟨p1, _, p3⟩ := hp
 replace p1 : d'.size = l.length := p1.trans hds
 have q3 : d'.toList.Perm d.toList := by
  rw [show d'.extract 0 l.length = d' by rw [← p1]; simp, show d.extract 0 l.length = d by rw [← hds]; simp] at p3
  exact p3
 have hdl : d.toList.map ofF = l := by
  rw [← hdd]
  simp only [List.map_map]
  have : ∀ (l : List Ed), (∀ e, e ∈ l → e.ok) → l.map (ofF ∘ Ed.toF) = l := by
   intro l
   induction l with
   | nil => intro _; rfl
   | cons e l ih => intro h; rw [List.map_cons, ih (fun x hx => h x (.tail _ hx)), Function.comp, of_to (h e (.head _))]
  exact this l hb
 have hpl : (d'.toList.map ofF).Perm l := by
  have := q3.map ofF
  rw [hdl] at this
  exact this
 have hfl' : (flatK encF 4 d').toList = edCells (d'.toList.map ofF) := by
  have := flatK_list d'.toList
  rw [Array.toArray_toList] at this
  rw [this, edCells, List.flatMap_map]
  rfl
 have hfs : (flatK encF 4 d').size = l.length * 4 := by rw [size_flatK, p1]
 obtain ⟨c1, c2⟩ := put_cells (flatK encF 4 d') cur (by rw [hfs]; exact hle)
 have hsz2 : (putRowK encF 4 (Sort.ahead w n) g 0 d').heap.size = w.heap.size := by
  simp [putRowK, putRow, mapBlock, Sort.ahead]
 have hg' : (grow (putRowK encF 4 (Sort.ahead w n) g 0 d') os).heap[g]? = some (.cells (putCells id 0 (flatK encF 4 d') cur) 95 (0, 0)) := by
  rw [heap_grow_old _ _ (by rw [hsz2]; exact hgl)]
  simp only [putRowK, putRow, mapBlock, Sort.ahead, Array.getElem?_modify, if_true]
  rw [hh]
  rfl
 refine ⟨.tuple #[], [rowR 95 4 (some ⟨g, 0, none⟩) l.length c (edCells (d'.toList.map ofF))], [], rfl, ⟨d'.toList.map ofF, ⟨hpl, ?_⟩, rfl, rfl, rfl⟩, ⟨rfl, rfl, rfl, ?_, fun k hk hnk => ?_⟩, S, fun _ => False, ⟨S, fun _ => False, ⟨?_, .inr ⟨g, _, rfl, hSg, hg', hnc, hcm, c1.trans hsz, ?_⟩⟩, fun _ h => h, fun _ _ h => h, fun k => by simp⟩, (fun _ h => nomatch h), fun _ _ h => h, fun k h => .inl h, fun _ h => h.elim, fun _ h => h.elim⟩
 ·rw [List.pairwise_map, List.pairwise_iff_getElem]
  intro i j hi hj hij hlt
  have := hso i j (Nat.zero_le _) hij (by rw [← p1]; simpa using hj)
  rw [← cfE_lt] at hlt
  rw [getElem!_pos _ j (by simpa using hj), getElem!_pos _ i (by simpa using hi)] at this
  simp only [Array.getElem_toList] at hlt
  exact absurd (hlt.symm.trans this) (by simp)
 ·rw [size_grow, hsz2]
  omega
 ·rw [heap_grow_old _ _ (by rw [hsz2]; exact hk)]
  simp only [putRowK, putRow, mapBlock, Sort.ahead, Array.getElem?_modify]
  rw [if_neg (fun q => hnk ((hSg k).2 q.symm))]
 ·rw [edCells_len, List.length_map, Array.length_toList, p1]
 ·rw [hfs] at c2
  rw [c2, hfl']
end Go.Proofs.Ytbanlhlggkdanaa
namespace Go.Proofs
open Go.Shelf Go.RowKit Go.Lib Go.Sort
def Try.sortEd_ren : Go.Shelf.Ren := ⟨fun | 6 => 74 | 15 => 96 | 14 => 97 | 28 => 118 | 29 => 119 | 20 => 120 | 21 => 121 | 22 => 122 | 23 => 123 | 24 => 124 | 25 => 125 | 26 => 126 | 27 => 127 | 46 => 135 | 47 => 130 | 48 => 131 | 49 => 136 | 50 => 137 | 57 => 139 | n => n, fun | 22 => 90 | 24 => 95 | 25 => 135 | 3 => 3 | 39 => 50 | 0 => 0 | 53 => 45 | 55 => 108 | 4 => 4 | 46 => 172 | 45 => 171 | 50 => 176 | 5 => 5 | 9 => 9 | 66 => 186 | 70 => 190 | 76 => 194 | 77 => 81 | n => n, fun | n => n⟩
theorem Try.sortEd : Go.Proofs.SlLaysF0.n6 Try.prog Try.sortEd_ren := {
 mixed := by kernel_rfl
 f6 := ⟨Try.f74.name, by decide, Try.func74.trans (congrArg some (by kernel_rfl))⟩
 f14 := ⟨Try.f97.name, by decide, Try.func97.trans (congrArg some (by kernel_rfl))⟩
 f15 := Try.func96.trans (congrArg some (by kernel_rfl))
 f20 := ⟨Try.f120.name, by decide, Try.func120.trans (congrArg some (by kernel_rfl))⟩
 f21 := ⟨Try.f121.name, by decide, Try.func121.trans (congrArg some (by kernel_rfl))⟩
 f22 := ⟨Try.f122.name, by decide, Try.func122.trans (congrArg some (by kernel_rfl))⟩
 f23 := ⟨Try.f123.name, by decide, Try.func123.trans (congrArg some (by kernel_rfl))⟩
 f24 := ⟨Try.f124.name, by decide, Try.func124.trans (congrArg some (by kernel_rfl))⟩
 f25 := ⟨Try.f125.name, by decide, Try.func125.trans (congrArg some (by kernel_rfl))⟩
 f26 := ⟨Try.f126.name, by decide, Try.func126.trans (congrArg some (by kernel_rfl))⟩
 f27 := ⟨Try.f127.name, by decide, Try.func127.trans (congrArg some (by kernel_rfl))⟩
 f28 := Try.func118.trans (congrArg some (by kernel_rfl))
 f29 := Try.func119.trans (congrArg some (by kernel_rfl))
 f46 := ⟨Try.f135.name, by decide, Try.func135.trans (congrArg some (by kernel_rfl))⟩
 f47 := Try.func130.trans (congrArg some (by kernel_rfl))
 f48 := Try.func131.trans (congrArg some (by kernel_rfl))
 f49 := ⟨Try.f136.name, by decide, Try.func136.trans (congrArg some (by kernel_rfl))⟩
 f50 := ⟨Try.f137.name, by decide, Try.func137.trans (congrArg some (by kernel_rfl))⟩
 f57 := ⟨Try.f139.name, by decide, Try.func139.trans (congrArg some (by kernel_rfl))⟩
 t0 := Try.underlying0
 a0 := Try.isAgg0
 z0 := Try.sizeOf0
 v0 := Try.zeroValue0
 t3 := Try.underlying3
 a3 := Try.isAgg3
 z3 := Try.sizeOf3
 v3 := Try.zeroValue3
 t4 := Try.underlying4
 a4 := Try.isAgg4
 z4 := Try.sizeOf4
 v4 := Try.zeroValue4
 t5 := Try.underlying5
 a5 := Try.isAgg5
 z5 := Try.sizeOf5
 v5 := Try.zeroValue5
 t9 := Try.underlying9
 a9 := Try.isAgg9
 z9 := Try.sizeOf9
 v9 := Try.zeroValue9
 t22 := Try.underlying90
 a22 := Try.isAgg90
 z22 := Try.sizeOf90
 v22 := Try.zeroValue90
 t25 := Try.underlying135
 a25 := Try.isAgg135
 z25 := Try.sizeOf135
 v25 := Try.zeroValue135
 t39 := Try.underlying50
 a39 := Try.isAgg50
 z39 := Try.sizeOf50
 v39 := Try.zeroValue50
 t45 := Try.underlying171
 a45 := Try.isAgg171
 z45 := Try.sizeOf171
 v45 := Try.zeroValue171
 t46 := Try.underlying172
 a46 := Try.isAgg172
 z46 := Try.sizeOf172
 v46 := Try.zeroValue172
 t50 := Try.underlying176
 a50 := Try.isAgg176
 z50 := Try.sizeOf176
 v50 := Try.zeroValue176
 t53 := Try.underlying45
 a53 := Try.isAgg45
 z53 := Try.sizeOf45
 v53 := Try.zeroValue45
 t55 := Try.underlying108
 a55 := Try.isAgg108
 z55 := Try.sizeOf108
 v55 := Try.zeroValue108
 t66 := Try.underlying186
 a66 := Try.isAgg186
 z66 := Try.sizeOf186
 v66 := Try.zeroValue186
 t70 := Try.underlying190
 a70 := Try.isAgg190
 z70 := Try.sizeOf190
 v70 := Try.zeroValue190
 t76 := Try.underlying194
 a76 := Try.isAgg194
 z76 := Try.sizeOf194
 v76 := Try.zeroValue194
 t77 := Try.underlying81
 a77 := Try.isAgg81
 z77 := Try.sizeOf81
 v77 := Try.zeroValue81 }
end Go.Proofs
namespace Go.Proofs.Ytbanlhlggkdanaa
open Go.Shelf Go.RowKit Go.Lib Go.Sort
theorem isAgg_95 (w : World) : (isAgg 95).run Try.prog w = .ok true w := Try.isAgg95 w
theorem sizeOf_95 (w : World) : (Go.sizeOf 95).run Try.prog w = .ok 4 w := Try.sizeOf95 w
theorem sort_c (A : Option Addr) (c : Nat) (l : List Ed) (h0 : 0 < l.length) (h1 : l.length ≤ 100000) (hb : ∀ e, e ∈ l → e.ok) : Tri Try.prog 74 [.slice A l.length c, .func (.func 75) #[] #[]] [rowR 95 4 A l.length c (edCells l)] [] (RetX (fun l' : List Ed => l'.Perm l ∧ l'.Pairwise (fun x y => ¬ edLt y x)) (fun _ => .tuple #[]) (fun l' => [rowR 95 4 A l.length c (edCells l')]) (fun _ => [])) := by
 refine sort_tri h0 h1 hb fun g cap d w hH hg hs => ?_
 have eg : ∀ args w, (callFunc 75 args).run Try.prog w = .ok (.enter 75 args) w := enters_of Try.func75 (by kernel_rfl) rfl
 exact AnyQ.slices_SortFunc Try.sortEd 4 isAgg_95 sizeOf_95 encF (fun _ => rfl) (fun x v hv => by simp [encF] at hv; rcases hv with rfl | rfl | rfl | rfl <;> rfl) cfE swoE 75 #[] g 0 cap d w eg (fun _ _ _ _ x y => cmp75 x y _) hH hg hs
end Go.Proofs.Ytbanlhlggkdanaa
