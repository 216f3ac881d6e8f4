/- The walks of the statements PredOrients and PredOns. -/
import Derived.Test.YtggbdfnoehienaaQ1
set_option linter.unusedSimpArgs false
set_option linter.unusedVariables false
namespace Go.Proofs.Ytggbdfnoehienaa
open Go.RowKit

theorem ent_12 : Enter Try.prog 12 = true := by kernel_rfl
theorem ent_13 : Enter Try.prog 13 = true := by kernel_rfl

set_option maxRecDepth 100000 in
set_option maxHeartbeats 4000000 in
theorem orients_c {a1 a2 e1 e2 c1 c2 : Int} : Tri Try.prog 12 [ptv a1 a2, ptv e1 e2, ptv c1 c2] [] [] (Ret0 (.bool true)) := by
  refine Tri_of (N := 62) Try.func12 rfl ent_12 rfl rfl ?_
  intro w0 S0 T0
  show CJ _ _ _ [(0, _), (1, _), (2, _)] _ _
  have ha := tm_p a1 a2
  have he := tm_p e1 e2
  have hc := tm_p c1 c2
  have hL : ∀ i, i < [(tm a1, tm a2), (tm e1, tm e2), (tm c1, tm c2)].length → P2 ([(tm a1, tm a2), (tm e1, tm e2), (tm c1, tm c2)].getD i (0, 0)).1 ([(tm a1, tm a2), (tm e1, tm e2), (tm c1, tm c2)].getD i (0, 0)).2 := fun i hi => by
    match i, hi with
    | 0, _ => exact ha
    | 1, _ => exact he
    | 2, _ => exact hc
  refine CJ_seq ?_
  refine CJ_reg ?_
  refine LJ_box (cs := #[_, _]) rfl rfl rfl rfl ?_
  intro b1
  refine LJ_box (cs := #[_, _]) rfl rfl rfl rfl ?_
  intro b2
  refine LJ_box (cs := #[_, _]) rfl rfl rfl rfl ?_
  intro b3
  refine LJ_y rfl rfl (YJ_assign rfl) ?_
  refine LJ_nil ?_
  refine QJ_then ?_
  refine CJ_seq ?_
  refine CJ_seq ?_
  refine CJ_reg ?_
  refine LJ_call0 rfl rfl rfl rfl rfl pfit_c (AllIn.sub (by first | exact trivial | exact And.intro (by repeat first | exact .head _ | apply List.Mem.tail) trivial | exact And.intro (by repeat first | exact .head _ | apply List.Mem.tail) (And.intro (by repeat first | exact .head _ | apply List.Mem.tail) trivial))) ?_
  refine LJ_y rfl rfl (YJ_not rfl) ?_
  refine LJ_nil ?_
  refine QJ_then ?_
  refine CJ_condF rfl ?_
  refine CJ_skip ?_
  refine QJ_then ?_
  refine CJ_seq ?_
  refine CJ_regM mix (by kernel_rfl) (fun _ _ _ _ _ h => h) [[8], [7, 8], [6, 7, 8]] ?_
  first | refine BJ_l 0 2 rfl (by kernel_rfl) (by kernel_rfl) (by kernel_rfl) rfl (by kernel_rfl) (by repeat first | exact .head _ | apply List.Mem.tail) rfl rfl (YJ_loadN (vs := [_, _]) rfl tyi_53 (by repeat first | exact .head _ | apply List.Mem.tail) rfl rfl) ?_ | refine BJ_l 0 2 rfl (by kernel_rfl) (by kernel_rfl) (by kernel_rfl) rfl (by kernel_rfl) (by repeat first | exact .head _ | apply List.Mem.tail) rfl rfl (YJ_loadFactN (vs := [_, _]) rfl tyi_53 (by repeat first | exact .head _ | apply List.Mem.tail) rfl rfl) ?_
  first | refine BJ_l 2 1 rfl (by kernel_rfl) (by kernel_rfl) (by kernel_rfl) rfl (by kernel_rfl) (by repeat first | exact .head _ | apply List.Mem.tail) rfl rfl (YJ_loadN (vs := [_, _]) rfl tyi_53 (by repeat first | exact .head _ | apply List.Mem.tail) rfl rfl) ?_ | refine BJ_l 2 1 rfl (by kernel_rfl) (by kernel_rfl) (by kernel_rfl) rfl (by kernel_rfl) (by repeat first | exact .head _ | apply List.Mem.tail) rfl rfl (YJ_loadFactN (vs := [_, _]) rfl tyi_53 (by repeat first | exact .head _ | apply List.Mem.tail) rfl rfl) ?_
  first | refine BJ_l 4 0 rfl (by kernel_rfl) (by kernel_rfl) (by kernel_rfl) rfl (by kernel_rfl) (by repeat first | exact .head _ | apply List.Mem.tail) rfl rfl (YJ_loadN (vs := [_, _]) rfl tyi_53 (by repeat first | exact .head _ | apply List.Mem.tail) rfl rfl) ?_ | refine BJ_l 4 0 rfl (by kernel_rfl) (by kernel_rfl) (by kernel_rfl) rfl (by kernel_rfl) (by repeat first | exact .head _ | apply List.Mem.tail) rfl rfl (YJ_loadFactN (vs := [_, _]) rfl tyi_53 (by repeat first | exact .head _ | apply List.Mem.tail) rfl rfl) ?_
  refine BJ_call0 1 rfl (by kernel_rfl) rfl rfl rfl rfl rfl (And.intro (.inr (by repeat first | exact .head _ | apply List.Mem.tail)) (And.intro (.inr (by repeat first | exact .head _ | apply List.Mem.tail)) (And.intro (.inr (by repeat first | exact .head _ | apply List.Mem.tail)) (trivial)))) tame_c (AllIn.sub (by first | exact trivial | exact And.intro (by repeat first | exact .head _ | apply List.Mem.tail) trivial | exact And.intro (by repeat first | exact .head _ | apply List.Mem.tail) (And.intro (by repeat first | exact .head _ | apply List.Mem.tail) trivial))) ?_
  refine BJ_call0 3 rfl (by kernel_rfl) rfl rfl rfl rfl rfl (And.intro (.inr (by repeat first | exact .head _ | apply List.Mem.tail)) (And.intro (.inr (by repeat first | exact .head _ | apply List.Mem.tail)) (And.intro (.inr (by repeat first | exact .head _ | apply List.Mem.tail)) (trivial)))) tame_c (AllIn.sub (by first | exact trivial | exact And.intro (by repeat first | exact .head _ | apply List.Mem.tail) trivial | exact And.intro (by repeat first | exact .head _ | apply List.Mem.tail) (And.intro (by repeat first | exact .head _ | apply List.Mem.tail) trivial))) ?_
  refine BJ_call0 5 rfl (by kernel_rfl) rfl rfl rfl rfl rfl (And.intro (.inr (by repeat first | exact .head _ | apply List.Mem.tail)) (And.intro (.inr (by repeat first | exact .head _ | apply List.Mem.tail)) (And.intro (.inr (by repeat first | exact .head _ | apply List.Mem.tail)) (trivial)))) tame_c (AllIn.sub (by first | exact trivial | exact And.intro (by repeat first | exact .head _ | apply List.Mem.tail) trivial | exact And.intro (by repeat first | exact .head _ | apply List.Mem.tail) (And.intro (by repeat first | exact .head _ | apply List.Mem.tail) trivial))) ?_
  refine BJ_store (cs' := #[_, _]) (μ' := [_, _, _]) 6 2 rfl (by kernel_rfl) rfl rfl rfl rfl tyi_53 rfl (Nat.le_of_ble_eq_true rfl) rfl rfl rfl (And.intro (.inr (by repeat first | exact .head _ | apply List.Mem.tail)) (And.intro (.inr (by repeat first | exact .head _ | apply List.Mem.tail)) (And.intro (.inl rfl) (trivial)))) ?_
  refine BJ_store (cs' := #[_, _]) (μ' := [_, _, _]) 7 1 rfl (by kernel_rfl) rfl rfl rfl rfl tyi_53 rfl (Nat.le_of_ble_eq_true rfl) rfl rfl rfl (And.intro (.inr (by repeat first | exact .head _ | apply List.Mem.tail)) (And.intro (.inl rfl) (And.intro (.inl rfl) (trivial)))) ?_
  refine BJ_store (cs' := #[_, _]) (μ' := [_, _, _]) 8 0 rfl (by kernel_rfl) rfl rfl rfl rfl tyi_53 rfl (Nat.le_of_ble_eq_true rfl) rfl rfl rfl (And.intro (.inl rfl) (And.intro (.inl rfl) (And.intro (.inl rfl) (trivial)))) ?_
  refine BJ_done (by kernel_rfl) ?_
  refine QJ_then ?_
  refine CJ_seq ?_
  refine CJ_reg ?_
  first | refine LJ_y rfl rfl (YJ_loadN (vs := [_, _]) rfl tyi_53 (by repeat first | exact .head _ | apply List.Mem.tail) rfl rfl) ?_ | refine LJ_y rfl rfl (YJ_loadFactN (vs := [_, _]) rfl tyi_53 (by repeat first | exact .head _ | apply List.Mem.tail) rfl rfl) ?_
  first | refine LJ_y rfl rfl (YJ_loadN (vs := [_, _]) rfl tyi_53 (by repeat first | exact .head _ | apply List.Mem.tail) rfl rfl) ?_ | refine LJ_y rfl rfl (YJ_loadFactN (vs := [_, _]) rfl tyi_53 (by repeat first | exact .head _ | apply List.Mem.tail) rfl rfl) ?_
  first | refine LJ_y rfl rfl (YJ_loadN (vs := [_, _]) rfl tyi_53 (by repeat first | exact .head _ | apply List.Mem.tail) rfl rfl) ?_ | refine LJ_y rfl rfl (YJ_loadFactN (vs := [_, _]) rfl tyi_53 (by repeat first | exact .head _ | apply List.Mem.tail) rfl rfl) ?_
  refine LJ_buildSliceN (vs := [_, _, _]) (cs := [_, _, _, _, _, _]) rfl rfl elt_87 zer_53 (by decide) (by decide) rfl rfl rfl rfl rfl ?_
  intro b4
  refine LJ_freeze ?_
  refine LJ_addF (r' := sliceR 2 (some ⟨b4, 0, none⟩) 3 (ptCells [(tm a1, tm a2), (tm e1, tm e2), (tm c1, tm c2)])) (.head _) (fun w S h => cellsR_slice (n := 3) rfl w S h) ?_
  refine LJ_callX rfl rfl rfl rfl rfl (larea2_c (l := [(tm a1, tm a2), (tm e1, tm e2), (tm c1, tm c2)]) rfl (by simp) hL) (AllIn.sub (And.intro (by repeat first | exact .head _ | apply List.Mem.tail) trivial)) ?_
  rw [show shoe [(tm a1, tm a2), (tm e1, tm e2), (tm c1, tm c2)] [(tm a1, tm a2), (tm e1, tm e2), (tm c1, tm c2)].length = A2 (tm a1) (tm a2) (tm e1) (tm e2) (tm c1) (tm c2) from shoe3 ..]
  rintro ⟨Z1, k1⟩ hcap1
  dsimp only at hcap1
  dsimp only [List.cons_append, List.nil_append]
  refine LJ_alloc (cs := #[_, _]) rfl rfl zer_29 rfl ?_
  intro b5
  refine LJ_store (cs' := #[_, _]) (μ' := [_, _, _, _]) 0 rfl rfl rfl rfl tyi_29 rfl (Nat.le_of_ble_eq_true rfl) rfl rfl rfl ?_
  refine LJ_nil ?_
  refine QJ_then ?_
  refine CJ_seq ?_
  refine CJ_reg ?_
  first | refine LJ_y rfl rfl (YJ_loadN (vs := [_, _]) rfl tyi_53 (by repeat first | exact .head _ | apply List.Mem.tail) rfl rfl) ?_ | refine LJ_y rfl rfl (YJ_loadFactN (vs := [_, _]) rfl tyi_53 (by repeat first | exact .head _ | apply List.Mem.tail) rfl rfl) ?_
  first | refine LJ_y rfl rfl (YJ_loadN (vs := [_, _]) rfl tyi_53 (by repeat first | exact .head _ | apply List.Mem.tail) rfl rfl) ?_ | refine LJ_y rfl rfl (YJ_loadFactN (vs := [_, _]) rfl tyi_53 (by repeat first | exact .head _ | apply List.Mem.tail) rfl rfl) ?_
  first | refine LJ_y rfl rfl (YJ_loadN (vs := [_, _]) rfl tyi_53 (by repeat first | exact .head _ | apply List.Mem.tail) rfl rfl) ?_ | refine LJ_y rfl rfl (YJ_loadFactN (vs := [_, _]) rfl tyi_53 (by repeat first | exact .head _ | apply List.Mem.tail) rfl rfl) ?_
  refine LJ_callX rfl rfl rfl rfl rfl (area2_c ha he hc) (AllIn.sub (by first | exact trivial | exact And.intro (by repeat first | exact .head _ | apply List.Mem.tail) trivial | exact And.intro (by repeat first | exact .head _ | apply List.Mem.tail) (And.intro (by repeat first | exact .head _ | apply List.Mem.tail) trivial))) ?_
  rintro ⟨Z2, k2⟩ hcap2
  dsimp only at hcap2
  dsimp only [List.cons_append, List.nil_append]
  refine LJ_alloc (cs := #[_, _]) rfl rfl zer_29 rfl ?_
  intro b6
  refine LJ_store (cs' := #[_, _]) (μ' := [_, _, _, _, _]) 0 rfl rfl rfl rfl tyi_29 rfl (Nat.le_of_ble_eq_true rfl) rfl rfl rfl ?_
  refine LJ_nil ?_
  refine QJ_then ?_
  refine CJ_seq ?_
  refine CJ_regD mix (by kernel_rfl) (fun _ _ _ _ _ h => h) _ _ (fun _ h => h) (fun _ h => h) ?_
  first | refine AJ_y 0 rfl (by kernel_rfl) (by kernel_rfl) rfl rfl (YJ_loadN (vs := [_, _]) rfl tyi_29 (by repeat first | exact .head _ | apply List.Mem.tail) rfl rfl) ?_ | refine AJ_y 0 rfl (by kernel_rfl) (by kernel_rfl) rfl rfl (YJ_loadFactN (vs := [_, _]) rfl tyi_29 (by repeat first | exact .head _ | apply List.Mem.tail) rfl rfl) ?_
  first | refine AJ_y 1 rfl (by kernel_rfl) (by kernel_rfl) rfl rfl (YJ_loadN (vs := [_, _]) rfl tyi_29 (by repeat first | exact .head _ | apply List.Mem.tail) rfl rfl) ?_ | refine AJ_y 1 rfl (by kernel_rfl) (by kernel_rfl) rfl rfl (YJ_loadFactN (vs := [_, _]) rfl tyi_29 (by repeat first | exact .head _ | apply List.Mem.tail) rfl rfl) ?_
  refine AJ_call0 2 rfl (by kernel_rfl) rfl rfl rfl rfl rfl (ncmp_c (dl_big (A2_r ha he hc)) (dl_big (A2_r ha he hc)) hcap2 hcap1) (AllIn.sub (And.intro (by repeat first | exact .head _ | apply List.Mem.tail) (And.intro (by repeat first | exact .head _ | apply List.Mem.tail) trivial))) ?_
  refine AJ_y 3 rfl (by kernel_rfl) (by kernel_rfl) rfl rfl (YJ_bin rfl rfl rfl) ?_
  refine AJ_y 4 rfl (by kernel_rfl) (by kernel_rfl) rfl rfl (YJ_move rfl) ?_
  refine AJ_bool (c := true) (decide_eq_true (sgn_self _)) ?_
  first | refine AJ_y 5 rfl (by kernel_rfl) (by kernel_rfl) rfl rfl (YJ_loadN (vs := [_, _]) rfl tyi_29 (by repeat first | exact .head _ | apply List.Mem.tail) rfl rfl) ?_ | refine AJ_y 5 rfl (by kernel_rfl) (by kernel_rfl) rfl rfl (YJ_loadFactN (vs := [_, _]) rfl tyi_29 (by repeat first | exact .head _ | apply List.Mem.tail) rfl rfl) ?_
  refine AJ_call0 6 rfl (by kernel_rfl) rfl rfl rfl rfl rfl (nright_c (Nat.le_trans (dl_r128 (A2_r ha he hc)) (by decide)) hcap2) (AllIn.sub (And.intro (by repeat first | exact .head _ | apply List.Mem.tail) trivial)) ?_
  refine AJ_y 7 rfl (by kernel_rfl) (by kernel_rfl) rfl rfl (YJ_pickT rfl rfl) ?_
  refine AJ_y 8 rfl (by kernel_rfl) (by kernel_rfl) rfl rfl (YJ_move rfl) ?_
  refine AJ_bool (c := true) rfl ?_
  first | refine AJ_y 9 rfl (by kernel_rfl) (by kernel_rfl) rfl rfl (YJ_loadN (vs := [_, _]) rfl tyi_53 (by repeat first | exact .head _ | apply List.Mem.tail) rfl rfl) ?_ | refine AJ_y 9 rfl (by kernel_rfl) (by kernel_rfl) rfl rfl (YJ_loadFactN (vs := [_, _]) rfl tyi_53 (by repeat first | exact .head _ | apply List.Mem.tail) rfl rfl) ?_
  first | refine AJ_y 10 rfl (by kernel_rfl) (by kernel_rfl) rfl rfl (YJ_loadN (vs := [_, _]) rfl tyi_53 (by repeat first | exact .head _ | apply List.Mem.tail) rfl rfl) ?_ | refine AJ_y 10 rfl (by kernel_rfl) (by kernel_rfl) rfl rfl (YJ_loadFactN (vs := [_, _]) rfl tyi_53 (by repeat first | exact .head _ | apply List.Mem.tail) rfl rfl) ?_
  first | refine AJ_y 11 rfl (by kernel_rfl) (by kernel_rfl) rfl rfl (YJ_loadN (vs := [_, _]) rfl tyi_53 (by repeat first | exact .head _ | apply List.Mem.tail) rfl rfl) ?_ | refine AJ_y 11 rfl (by kernel_rfl) (by kernel_rfl) rfl rfl (YJ_loadFactN (vs := [_, _]) rfl tyi_53 (by repeat first | exact .head _ | apply List.Mem.tail) rfl rfl) ?_
  first | refine AJ_y 13 rfl (by kernel_rfl) (by kernel_rfl) rfl rfl (YJ_loadN (vs := [_, _]) rfl tyi_29 (by repeat first | exact .head _ | apply List.Mem.tail) rfl rfl) ?_ | refine AJ_y 13 rfl (by kernel_rfl) (by kernel_rfl) rfl rfl (YJ_loadFactN (vs := [_, _]) rfl tyi_29 (by repeat first | exact .head _ | apply List.Mem.tail) rfl rfl) ?_
  refine AJ_call0 12 rfl (by kernel_rfl) rfl rfl rfl rfl rfl (orient_c ha he hc) (AllIn.sub (by first | exact trivial | exact And.intro (by repeat first | exact .head _ | apply List.Mem.tail) trivial | exact And.intro (by repeat first | exact .head _ | apply List.Mem.tail) (And.intro (by repeat first | exact .head _ | apply List.Mem.tail) trivial))) ?_
  refine AJ_call0 14 rfl (by kernel_rfl) rfl rfl rfl rfl rfl (nsign_c (Nat.le_trans (dl_r128 (A2_r ha he hc)) (by decide)) hcap1) (AllIn.sub (And.intro (by repeat first | exact .head _ | apply List.Mem.tail) trivial)) ?_
  refine AJ_y 15 rfl (by kernel_rfl) (by kernel_rfl) rfl rfl (YJ_bin rfl rfl rfl) ?_
  refine AJ_y 16 rfl (by kernel_rfl) (by kernel_rfl) rfl rfl (YJ_pickT rfl rfl) ?_
  refine AJ_y 17 rfl (by kernel_rfl) (by kernel_rfl) rfl rfl (YJ_move rfl) ?_
  refine AJ_bool (c := true) (decide_eq_true rfl) ?_
  first | refine AJ_y 18 rfl (by kernel_rfl) (by kernel_rfl) rfl rfl (YJ_loadN (vs := [_, _]) rfl tyi_53 (by repeat first | exact .head _ | apply List.Mem.tail) rfl rfl) ?_ | refine AJ_y 18 rfl (by kernel_rfl) (by kernel_rfl) rfl rfl (YJ_loadFactN (vs := [_, _]) rfl tyi_53 (by repeat first | exact .head _ | apply List.Mem.tail) rfl rfl) ?_
  first | refine AJ_y 19 rfl (by kernel_rfl) (by kernel_rfl) rfl rfl (YJ_loadN (vs := [_, _]) rfl tyi_53 (by repeat first | exact .head _ | apply List.Mem.tail) rfl rfl) ?_ | refine AJ_y 19 rfl (by kernel_rfl) (by kernel_rfl) rfl rfl (YJ_loadFactN (vs := [_, _]) rfl tyi_53 (by repeat first | exact .head _ | apply List.Mem.tail) rfl rfl) ?_
  first | refine AJ_y 20 rfl (by kernel_rfl) (by kernel_rfl) rfl rfl (YJ_loadN (vs := [_, _]) rfl tyi_53 (by repeat first | exact .head _ | apply List.Mem.tail) rfl rfl) ?_ | refine AJ_y 20 rfl (by kernel_rfl) (by kernel_rfl) rfl rfl (YJ_loadFactN (vs := [_, _]) rfl tyi_53 (by repeat first | exact .head _ | apply List.Mem.tail) rfl rfl) ?_
  first | refine AJ_y 22 rfl (by kernel_rfl) (by kernel_rfl) rfl rfl (YJ_loadN (vs := [_, _]) rfl tyi_29 (by repeat first | exact .head _ | apply List.Mem.tail) rfl rfl) ?_ | refine AJ_y 22 rfl (by kernel_rfl) (by kernel_rfl) rfl rfl (YJ_loadFactN (vs := [_, _]) rfl tyi_29 (by repeat first | exact .head _ | apply List.Mem.tail) rfl rfl) ?_
  refine AJ_call0 21 rfl (by kernel_rfl) rfl rfl rfl rfl rfl (orient_c he hc ha) (AllIn.sub (by first | exact trivial | exact And.intro (by repeat first | exact .head _ | apply List.Mem.tail) trivial | exact And.intro (by repeat first | exact .head _ | apply List.Mem.tail) (And.intro (by repeat first | exact .head _ | apply List.Mem.tail) trivial))) ?_
  refine AJ_call0 23 rfl (by kernel_rfl) rfl rfl rfl rfl rfl (nsign_c (Nat.le_trans (dl_r128 (A2_r ha he hc)) (by decide)) hcap1) (AllIn.sub (And.intro (by repeat first | exact .head _ | apply List.Mem.tail) trivial)) ?_
  refine AJ_y 24 rfl (by kernel_rfl) (by kernel_rfl) rfl rfl (YJ_bin rfl rfl rfl) ?_
  refine AJ_y 25 rfl (by kernel_rfl) (by kernel_rfl) rfl rfl (YJ_pickT rfl rfl) ?_
  refine AJ_y 26 rfl (by kernel_rfl) (by kernel_rfl) rfl rfl (YJ_move rfl) ?_
  refine AJ_bool (c := true) (decide_eq_true (by rw [A2_rot])) ?_
  first | refine AJ_y 27 rfl (by kernel_rfl) (by kernel_rfl) rfl rfl (YJ_loadN (vs := [_, _]) rfl tyi_53 (by repeat first | exact .head _ | apply List.Mem.tail) rfl rfl) ?_ | refine AJ_y 27 rfl (by kernel_rfl) (by kernel_rfl) rfl rfl (YJ_loadFactN (vs := [_, _]) rfl tyi_53 (by repeat first | exact .head _ | apply List.Mem.tail) rfl rfl) ?_
  first | refine AJ_y 28 rfl (by kernel_rfl) (by kernel_rfl) rfl rfl (YJ_loadN (vs := [_, _]) rfl tyi_53 (by repeat first | exact .head _ | apply List.Mem.tail) rfl rfl) ?_ | refine AJ_y 28 rfl (by kernel_rfl) (by kernel_rfl) rfl rfl (YJ_loadFactN (vs := [_, _]) rfl tyi_53 (by repeat first | exact .head _ | apply List.Mem.tail) rfl rfl) ?_
  first | refine AJ_y 29 rfl (by kernel_rfl) (by kernel_rfl) rfl rfl (YJ_loadN (vs := [_, _]) rfl tyi_53 (by repeat first | exact .head _ | apply List.Mem.tail) rfl rfl) ?_ | refine AJ_y 29 rfl (by kernel_rfl) (by kernel_rfl) rfl rfl (YJ_loadFactN (vs := [_, _]) rfl tyi_53 (by repeat first | exact .head _ | apply List.Mem.tail) rfl rfl) ?_
  first | refine AJ_y 31 rfl (by kernel_rfl) (by kernel_rfl) rfl rfl (YJ_loadN (vs := [_, _]) rfl tyi_29 (by repeat first | exact .head _ | apply List.Mem.tail) rfl rfl) ?_ | refine AJ_y 31 rfl (by kernel_rfl) (by kernel_rfl) rfl rfl (YJ_loadFactN (vs := [_, _]) rfl tyi_29 (by repeat first | exact .head _ | apply List.Mem.tail) rfl rfl) ?_
  refine AJ_call0 30 rfl (by kernel_rfl) rfl rfl rfl rfl rfl (orient_c he ha hc) (AllIn.sub (by first | exact trivial | exact And.intro (by repeat first | exact .head _ | apply List.Mem.tail) trivial | exact And.intro (by repeat first | exact .head _ | apply List.Mem.tail) (And.intro (by repeat first | exact .head _ | apply List.Mem.tail) trivial))) ?_
  refine AJ_call0 32 rfl (by kernel_rfl) rfl rfl rfl rfl rfl (nsign_c (Nat.le_trans (dl_r128 (A2_r ha he hc)) (by decide)) hcap1) (AllIn.sub (And.intro (by repeat first | exact .head _ | apply List.Mem.tail) trivial)) ?_
  refine AJ_y 33 rfl (by kernel_rfl) (by kernel_rfl) rfl rfl (YJ_neg rfl rfl) ?_
  refine AJ_val (v := .int .i64 (-sgn (A2 (tm a1) (tm a2) (tm e1) (tm e2) (tm c1) (tm c2)))) (congrArg (Value.int .i64) (sgn_wrap _)) ?_
  refine AJ_y 34 rfl (by kernel_rfl) (by kernel_rfl) rfl rfl (YJ_bin rfl rfl rfl) ?_
  refine AJ_val (v := .bool true) (congrArg Value.bool (decide_eq_true (by rw [A2_swap, sgn_neg]))) ?_
  refine AJ_y 35 rfl (by kernel_rfl) (by kernel_rfl) rfl rfl (YJ_pickT rfl rfl) ?_
  refine AJ_y 36 rfl (by kernel_rfl) (by kernel_rfl) rfl rfl (YJ_assign rfl) ?_
  refine AJ_done (by kernel_rfl) ?_
  refine QJ_then ?_
  refine CJ_ret ?_
  refine QJ_fin (.inl rfl) (μ' := []) (μr := _) (φ' := []) (res_tmp rfl rfl) (List.Perm.refl _) (fun _ h => nomatch h) ?_
  exact ⟨rfl, rfl, rfl⟩


theorem r128_four : R128 4 := by decide
theorem i64_four : I64 4 := by unfold I64; omega
theorem on_swap_c {p1 p2 a1 a2 e1 e2 : Int} (hp : P2 p1 p2) (ha : P2 a1 a2) (he : P2 e1 e2) : Tri Try.prog 42 [ptv p1 p2, ptv e1 e2, ptv a1 a2] [] [] (Ret0 (.bool (decide (OnL p1 p2 a1 a2 e1 e2)))) := by
  rw [← decide_eq_decide.2 (on_swap (p1 := p1) (p2 := p2) (a1 := a1) (a2 := a2) (e1 := e1) (e2 := e2))]
  exact on_c hp he ha


set_option maxRecDepth 100000 in
set_option maxHeartbeats 8000000 in
theorem ons_c {p1 p2 a1 a2 e1 e2 : Int} : Tri Try.prog 13 [ptv p1 p2, ptv a1 a2, ptv e1 e2] [] [] (Ret0 (.bool true)) := by
  refine Tri_of (N := 89) Try.func13 rfl ent_13 rfl rfl ?_
  intro w0 S0 T0
  show CJ _ _ _ [(0, _), (1, _), (2, _)] _ _
  have hp := tm_p p1 p2
  have ha := tm_p a1 a2
  have he := tm_p e1 e2
  have hon := on_iff (tm p1) (tm p2) (tm a1) (tm a2) (tm e1) (tm e2) rfl rfl rfl
  refine CJ_seq ?_
  refine CJ_reg ?_
  refine LJ_box (cs := #[_, _]) rfl rfl rfl rfl ?_
  intro b1
  refine LJ_box (cs := #[_, _]) rfl rfl rfl rfl ?_
  intro b2
  refine LJ_box (cs := #[_, _]) rfl rfl rfl rfl ?_
  intro b3
  refine LJ_y rfl rfl (YJ_assign rfl) ?_
  refine LJ_nil ?_
  refine QJ_then ?_
  refine CJ_seq ?_
  refine CJ_seq ?_
  refine CJ_reg ?_
  refine LJ_call0 rfl rfl rfl rfl rfl pfit_c (AllIn.sub (by first | exact trivial | exact And.intro (by repeat first | exact .head _ | apply List.Mem.tail) trivial | exact And.intro (by repeat first | exact .head _ | apply List.Mem.tail) (And.intro (by repeat first | exact .head _ | apply List.Mem.tail) trivial))) ?_
  refine LJ_y rfl rfl (YJ_not rfl) ?_
  refine LJ_nil ?_
  refine QJ_then ?_
  refine CJ_condF rfl ?_
  refine CJ_skip ?_
  refine QJ_then ?_
  refine CJ_seq ?_
  refine CJ_regM mix (by kernel_rfl) (fun _ _ _ _ _ h => h) [[8], [7, 8], [6, 7, 8]] ?_
  first | refine BJ_l 0 2 rfl (by kernel_rfl) (by kernel_rfl) (by kernel_rfl) rfl (by kernel_rfl) (by repeat first | exact .head _ | apply List.Mem.tail) rfl rfl (YJ_loadN (vs := [_, _]) rfl tyi_53 (by repeat first | exact .head _ | apply List.Mem.tail) rfl rfl) ?_ | refine BJ_l 0 2 rfl (by kernel_rfl) (by kernel_rfl) (by kernel_rfl) rfl (by kernel_rfl) (by repeat first | exact .head _ | apply List.Mem.tail) rfl rfl (YJ_loadFactN (vs := [_, _]) rfl tyi_53 (by repeat first | exact .head _ | apply List.Mem.tail) rfl rfl) ?_
  first | refine BJ_l 2 1 rfl (by kernel_rfl) (by kernel_rfl) (by kernel_rfl) rfl (by kernel_rfl) (by repeat first | exact .head _ | apply List.Mem.tail) rfl rfl (YJ_loadN (vs := [_, _]) rfl tyi_53 (by repeat first | exact .head _ | apply List.Mem.tail) rfl rfl) ?_ | refine BJ_l 2 1 rfl (by kernel_rfl) (by kernel_rfl) (by kernel_rfl) rfl (by kernel_rfl) (by repeat first | exact .head _ | apply List.Mem.tail) rfl rfl (YJ_loadFactN (vs := [_, _]) rfl tyi_53 (by repeat first | exact .head _ | apply List.Mem.tail) rfl rfl) ?_
  first | refine BJ_l 4 0 rfl (by kernel_rfl) (by kernel_rfl) (by kernel_rfl) rfl (by kernel_rfl) (by repeat first | exact .head _ | apply List.Mem.tail) rfl rfl (YJ_loadN (vs := [_, _]) rfl tyi_53 (by repeat first | exact .head _ | apply List.Mem.tail) rfl rfl) ?_ | refine BJ_l 4 0 rfl (by kernel_rfl) (by kernel_rfl) (by kernel_rfl) rfl (by kernel_rfl) (by repeat first | exact .head _ | apply List.Mem.tail) rfl rfl (YJ_loadFactN (vs := [_, _]) rfl tyi_53 (by repeat first | exact .head _ | apply List.Mem.tail) rfl rfl) ?_
  refine BJ_call0 1 rfl (by kernel_rfl) rfl rfl rfl rfl rfl (And.intro (.inr (by repeat first | exact .head _ | apply List.Mem.tail)) (And.intro (.inr (by repeat first | exact .head _ | apply List.Mem.tail)) (And.intro (.inr (by repeat first | exact .head _ | apply List.Mem.tail)) (trivial)))) tame_c (AllIn.sub (by first | exact trivial | exact And.intro (by repeat first | exact .head _ | apply List.Mem.tail) trivial | exact And.intro (by repeat first | exact .head _ | apply List.Mem.tail) (And.intro (by repeat first | exact .head _ | apply List.Mem.tail) trivial))) ?_
  refine BJ_call0 3 rfl (by kernel_rfl) rfl rfl rfl rfl rfl (And.intro (.inr (by repeat first | exact .head _ | apply List.Mem.tail)) (And.intro (.inr (by repeat first | exact .head _ | apply List.Mem.tail)) (And.intro (.inr (by repeat first | exact .head _ | apply List.Mem.tail)) (trivial)))) tame_c (AllIn.sub (by first | exact trivial | exact And.intro (by repeat first | exact .head _ | apply List.Mem.tail) trivial | exact And.intro (by repeat first | exact .head _ | apply List.Mem.tail) (And.intro (by repeat first | exact .head _ | apply List.Mem.tail) trivial))) ?_
  refine BJ_call0 5 rfl (by kernel_rfl) rfl rfl rfl rfl rfl (And.intro (.inr (by repeat first | exact .head _ | apply List.Mem.tail)) (And.intro (.inr (by repeat first | exact .head _ | apply List.Mem.tail)) (And.intro (.inr (by repeat first | exact .head _ | apply List.Mem.tail)) (trivial)))) tame_c (AllIn.sub (by first | exact trivial | exact And.intro (by repeat first | exact .head _ | apply List.Mem.tail) trivial | exact And.intro (by repeat first | exact .head _ | apply List.Mem.tail) (And.intro (by repeat first | exact .head _ | apply List.Mem.tail) trivial))) ?_
  refine BJ_store (cs' := #[_, _]) (μ' := [_, _, _]) 6 2 rfl (by kernel_rfl) rfl rfl rfl rfl tyi_53 rfl (Nat.le_of_ble_eq_true rfl) rfl rfl rfl (And.intro (.inr (by repeat first | exact .head _ | apply List.Mem.tail)) (And.intro (.inr (by repeat first | exact .head _ | apply List.Mem.tail)) (And.intro (.inl rfl) (trivial)))) ?_
  refine BJ_store (cs' := #[_, _]) (μ' := [_, _, _]) 7 1 rfl (by kernel_rfl) rfl rfl rfl rfl tyi_53 rfl (Nat.le_of_ble_eq_true rfl) rfl rfl rfl (And.intro (.inr (by repeat first | exact .head _ | apply List.Mem.tail)) (And.intro (.inl rfl) (And.intro (.inl rfl) (trivial)))) ?_
  refine BJ_store (cs' := #[_, _]) (μ' := [_, _, _]) 8 0 rfl (by kernel_rfl) rfl rfl rfl rfl tyi_53 rfl (Nat.le_of_ble_eq_true rfl) rfl rfl rfl (And.intro (.inl rfl) (And.intro (.inl rfl) (And.intro (.inl rfl) (trivial)))) ?_
  refine BJ_done (by kernel_rfl) ?_
  refine QJ_then ?_
  refine CJ_seq ?_
  refine CJ_regDA mix (by kernel_rfl) (fun _ _ _ _ _ h => h) _ _ (fun _ h => h) (fun _ h => h) [⟨9, 7, 29, #[.bool false, .slice none 0 0]⟩, ⟨10, 8, 29, #[.bool false, .slice none 0 0]⟩, ⟨11, 9, 29, #[.bool false, .slice none 0 0]⟩] 12 rfl (And.intro ⟨_, _, _, _, rfl, zer_29, rfl⟩ (And.intro ⟨_, _, _, _, rfl, zer_29, rfl⟩ (And.intro ⟨_, _, _, _, rfl, zer_29, rfl⟩ (trivial)))) rfl rfl ?_
  first | refine AA_y 0 rfl (by kernel_rfl) rfl rfl rfl (YJ_loadN (vs := [_, _]) rfl tyi_53 (by repeat first | exact .head _ | apply List.Mem.tail) rfl rfl) ?_ | refine AA_y 0 rfl (by kernel_rfl) rfl rfl rfl (YJ_loadFactN (vs := [_, _]) rfl tyi_53 (by repeat first | exact .head _ | apply List.Mem.tail) rfl rfl) ?_
  first | refine AA_y 1 rfl (by kernel_rfl) rfl rfl rfl (YJ_loadN (vs := [_, _]) rfl tyi_53 (by repeat first | exact .head _ | apply List.Mem.tail) rfl rfl) ?_ | refine AA_y 1 rfl (by kernel_rfl) rfl rfl rfl (YJ_loadFactN (vs := [_, _]) rfl tyi_53 (by repeat first | exact .head _ | apply List.Mem.tail) rfl rfl) ?_
  first | refine AA_y 3 rfl (by kernel_rfl) rfl rfl rfl (YJ_loadN (vs := [_, _]) rfl tyi_53 (by repeat first | exact .head _ | apply List.Mem.tail) rfl rfl) ?_ | refine AA_y 3 rfl (by kernel_rfl) rfl rfl rfl (YJ_loadFactN (vs := [_, _]) rfl tyi_53 (by repeat first | exact .head _ | apply List.Mem.tail) rfl rfl) ?_
  first | refine AA_y 4 rfl (by kernel_rfl) rfl rfl rfl (YJ_loadN (vs := [_, _]) rfl tyi_53 (by repeat first | exact .head _ | apply List.Mem.tail) rfl rfl) ?_ | refine AA_y 4 rfl (by kernel_rfl) rfl rfl rfl (YJ_loadFactN (vs := [_, _]) rfl tyi_53 (by repeat first | exact .head _ | apply List.Mem.tail) rfl rfl) ?_
  first | refine AA_y 6 rfl (by kernel_rfl) rfl rfl rfl (YJ_loadN (vs := [_, _]) rfl tyi_53 (by repeat first | exact .head _ | apply List.Mem.tail) rfl rfl) ?_ | refine AA_y 6 rfl (by kernel_rfl) rfl rfl rfl (YJ_loadFactN (vs := [_, _]) rfl tyi_53 (by repeat first | exact .head _ | apply List.Mem.tail) rfl rfl) ?_
  first | refine AA_y 7 rfl (by kernel_rfl) rfl rfl rfl (YJ_loadN (vs := [_, _]) rfl tyi_53 (by repeat first | exact .head _ | apply List.Mem.tail) rfl rfl) ?_ | refine AA_y 7 rfl (by kernel_rfl) rfl rfl rfl (YJ_loadFactN (vs := [_, _]) rfl tyi_53 (by repeat first | exact .head _ | apply List.Mem.tail) rfl rfl) ?_
  refine AA_callX 2 rfl (by kernel_rfl) rfl rfl rfl rfl rfl rfl rfl (square_c ha hp) (AllIn.sub (by first | exact trivial | exact And.intro (by repeat first | exact .head _ | apply List.Mem.tail) trivial | exact And.intro (by repeat first | exact .head _ | apply List.Mem.tail) (And.intro (by repeat first | exact .head _ | apply List.Mem.tail) trivial))) ?_
  rintro ⟨Z1, k1⟩ hcap1
  dsimp only at hcap1
  dsimp only [List.cons_append, List.nil_append]
  refine AA_callX 5 rfl (by kernel_rfl) rfl rfl rfl rfl rfl rfl rfl (square_c hp he) (AllIn.sub (by first | exact trivial | exact And.intro (by repeat first | exact .head _ | apply List.Mem.tail) trivial | exact And.intro (by repeat first | exact .head _ | apply List.Mem.tail) (And.intro (by repeat first | exact .head _ | apply List.Mem.tail) trivial))) ?_
  rintro ⟨Z2, k2⟩ hcap2
  dsimp only at hcap2
  dsimp only [List.cons_append, List.nil_append]
  refine AA_callX 8 rfl (by kernel_rfl) rfl rfl rfl rfl rfl rfl rfl (square_c ha he) (AllIn.sub (by first | exact trivial | exact And.intro (by repeat first | exact .head _ | apply List.Mem.tail) trivial | exact And.intro (by repeat first | exact .head _ | apply List.Mem.tail) (And.intro (by repeat first | exact .head _ | apply List.Mem.tail) trivial))) ?_
  rintro ⟨Z3, k3⟩ hcap3
  dsimp only at hcap3
  dsimp only [List.cons_append, List.nil_append]
  refine AA_end (by kernel_rfl) rfl ?_
  intro bs hbs
  obtain ⟨b4, b5, b6, rfl⟩ := len_3 hbs
  clear hbs
  show AJ _ _ _ _ _ _ _ ((7, .pointer (some ⟨b4, 0, none⟩)) :: (8, .pointer (some ⟨b5, 0, none⟩)) :: (9, .pointer (some ⟨b6, 0, none⟩)) :: _) (cellsR b4 _ _ :: cellsR b5 _ _ :: cellsR b6 _ _ :: _) _
  refine AJ_store (cs' := #[_, _]) (μ' := [_, _, _, _, _, _]) 12 0 rfl (by kernel_rfl) rfl rfl rfl rfl tyi_29 rfl (Nat.le_of_ble_eq_true rfl) rfl rfl rfl (fun _ => AllIn.sub (And.intro (by repeat first | exact .head _ | apply List.Mem.tail) (And.intro (by repeat first | exact .head _ | apply List.Mem.tail) (And.intro (by repeat first | exact .head _ | apply List.Mem.tail) (trivial))))) ?_
  refine AJ_store (cs' := #[_, _]) (μ' := [_, _, _, _, _, _]) 13 1 rfl (by kernel_rfl) rfl rfl rfl rfl tyi_29 rfl (Nat.le_of_ble_eq_true rfl) rfl rfl rfl (fun _ => AllIn.sub (And.intro (by repeat first | exact .head _ | apply List.Mem.tail) (And.intro (by repeat first | exact .head _ | apply List.Mem.tail) (And.intro (by repeat first | exact .head _ | apply List.Mem.tail) (trivial))))) ?_
  refine AJ_store (cs' := #[_, _]) (μ' := [_, _, _, _, _, _]) 14 2 rfl (by kernel_rfl) rfl rfl rfl rfl tyi_29 rfl (Nat.le_of_ble_eq_true rfl) rfl rfl rfl (fun _ => AllIn.sub (And.intro (by repeat first | exact .head _ | apply List.Mem.tail) (And.intro (by repeat first | exact .head _ | apply List.Mem.tail) (And.intro (by repeat first | exact .head _ | apply List.Mem.tail) (trivial))))) ?_
  refine AJ_done (by kernel_rfl) ?_
  refine QJ_then ?_
  refine CJ_seq ?_
  refine CJ_regDA mix (by kernel_rfl) (fun _ _ _ _ _ h => h) _ _ (fun _ h => h) (fun _ h => h) [⟨5, 10, 29, #[.bool false, .slice none 0 0]⟩] 6 rfl (And.intro ⟨_, _, _, _, rfl, zer_29, rfl⟩ (trivial)) rfl rfl ?_
  first | refine AA_y 0 rfl (by kernel_rfl) rfl rfl rfl (YJ_loadN (vs := [_, _]) rfl tyi_29 (by repeat first | exact .head _ | apply List.Mem.tail) rfl rfl) ?_ | refine AA_y 0 rfl (by kernel_rfl) rfl rfl rfl (YJ_loadFactN (vs := [_, _]) rfl tyi_29 (by repeat first | exact .head _ | apply List.Mem.tail) rfl rfl) ?_
  first | refine AA_y 1 rfl (by kernel_rfl) rfl rfl rfl (YJ_loadN (vs := [_, _]) rfl tyi_29 (by repeat first | exact .head _ | apply List.Mem.tail) rfl rfl) ?_ | refine AA_y 1 rfl (by kernel_rfl) rfl rfl rfl (YJ_loadFactN (vs := [_, _]) rfl tyi_29 (by repeat first | exact .head _ | apply List.Mem.tail) rfl rfl) ?_
  first | refine AA_y 3 rfl (by kernel_rfl) rfl rfl rfl (YJ_loadN (vs := [_, _]) rfl tyi_29 (by repeat first | exact .head _ | apply List.Mem.tail) rfl rfl) ?_ | refine AA_y 3 rfl (by kernel_rfl) rfl rfl rfl (YJ_loadFactN (vs := [_, _]) rfl tyi_29 (by repeat first | exact .head _ | apply List.Mem.tail) rfl rfl) ?_
  refine AA_callX 2 rfl (by kernel_rfl) rfl rfl rfl rfl rfl rfl rfl (nsub_c (a := (((tm a1 - tm e1) * (tm a1 - tm e1)) + ((tm a2 - tm e2) * (tm a2 - tm e2)))) (b := (((tm a1 - tm p1) * (tm a1 - tm p1)) + ((tm a2 - tm p2) * (tm a2 - tm p2)))) (Nat.le_trans (dl_add (dl_mul (dl_r128 (Tm.d ha.1 he.1).i.r) (dl_r128 (Tm.d ha.1 he.1).i.r)) (dl_mul (dl_r128 (Tm.d ha.2 he.2).i.r) (dl_r128 (Tm.d ha.2 he.2).i.r))) (by decide)) (Nat.le_trans (dl_add (dl_mul (dl_r128 (Tm.d ha.1 hp.1).i.r) (dl_r128 (Tm.d ha.1 hp.1).i.r)) (dl_mul (dl_r128 (Tm.d ha.2 hp.2).i.r) (dl_r128 (Tm.d ha.2 hp.2).i.r))) (by decide)) hcap3 hcap1) (AllIn.sub (And.intro (by repeat first | exact .head _ | apply List.Mem.tail) (And.intro (by repeat first | exact .head _ | apply List.Mem.tail) trivial))) ?_
  rintro ⟨Z4, k4⟩ hcap4
  dsimp only at hcap4
  dsimp only [List.cons_append, List.nil_append]
  refine AA_callX 4 rfl (by kernel_rfl) rfl rfl rfl rfl rfl rfl rfl (nsub_c (a := ((((tm a1 - tm e1) * (tm a1 - tm e1)) + ((tm a2 - tm e2) * (tm a2 - tm e2))) - (((tm a1 - tm p1) * (tm a1 - tm p1)) + ((tm a2 - tm p2) * (tm a2 - tm p2))))) (b := (((tm p1 - tm e1) * (tm p1 - tm e1)) + ((tm p2 - tm e2) * (tm p2 - tm e2)))) (Nat.le_trans (dl_sub (dl_add (dl_mul (dl_r128 (Tm.d ha.1 he.1).i.r) (dl_r128 (Tm.d ha.1 he.1).i.r)) (dl_mul (dl_r128 (Tm.d ha.2 he.2).i.r) (dl_r128 (Tm.d ha.2 he.2).i.r))) (dl_add (dl_mul (dl_r128 (Tm.d ha.1 hp.1).i.r) (dl_r128 (Tm.d ha.1 hp.1).i.r)) (dl_mul (dl_r128 (Tm.d ha.2 hp.2).i.r) (dl_r128 (Tm.d ha.2 hp.2).i.r)))) (by decide)) (Nat.le_trans (dl_add (dl_mul (dl_r128 (Tm.d hp.1 he.1).i.r) (dl_r128 (Tm.d hp.1 he.1).i.r)) (dl_mul (dl_r128 (Tm.d hp.2 he.2).i.r) (dl_r128 (Tm.d hp.2 he.2).i.r))) (by decide)) hcap4 hcap2) (AllIn.sub (And.intro (by repeat first | exact .head _ | apply List.Mem.tail) (And.intro (by repeat first | exact .head _ | apply List.Mem.tail) trivial))) ?_
  rintro ⟨Z5, k5⟩ hcap5
  dsimp only at hcap5
  dsimp only [List.cons_append, List.nil_append]
  refine AA_end (by kernel_rfl) rfl ?_
  intro bs hbs
  obtain ⟨b7, rfl⟩ := len_1 hbs
  clear hbs
  show AJ _ _ _ _ _ _ _ ((10, .pointer (some ⟨b7, 0, none⟩)) :: _) (cellsR b7 _ _ :: _) _
  refine AJ_store (cs' := #[_, _]) (μ' := [_, _, _, _, _, _, _]) 6 0 rfl (by kernel_rfl) rfl rfl rfl rfl tyi_29 rfl (Nat.le_of_ble_eq_true rfl) rfl rfl rfl (fun _ => AllIn.sub (And.intro (by repeat first | exact .head _ | apply List.Mem.tail) (And.intro (by repeat first | exact .head _ | apply List.Mem.tail) (And.intro (by repeat first | exact .head _ | apply List.Mem.tail) (And.intro (by repeat first | exact .head _ | apply List.Mem.tail) (And.intro (by repeat first | exact .head _ | apply List.Mem.tail) (And.intro (by repeat first | exact .head _ | apply List.Mem.tail) (trivial)))))))) ?_
  refine AJ_done (by kernel_rfl) ?_
  refine QJ_then ?_
  refine CJ_seq ?_
  refine CJ_regD mix (by kernel_rfl) (fun _ _ _ _ _ h => h) _ _ (fun _ h => h) (fun _ h => h) ?_
  first | refine AJ_y 0 rfl (by kernel_rfl) (by kernel_rfl) rfl rfl (YJ_loadN (vs := [_, _]) rfl tyi_29 (by repeat first | exact .head _ | apply List.Mem.tail) rfl rfl) ?_ | refine AJ_y 0 rfl (by kernel_rfl) (by kernel_rfl) rfl rfl (YJ_loadFactN (vs := [_, _]) rfl tyi_29 (by repeat first | exact .head _ | apply List.Mem.tail) rfl rfl) ?_
  refine AJ_call0 1 rfl (by kernel_rfl) rfl rfl rfl rfl rfl (nsign_c (Nat.le_trans (dl_sub (dl_sub (dl_add (dl_mul (dl_r128 (Tm.d ha.1 he.1).i.r) (dl_r128 (Tm.d ha.1 he.1).i.r)) (dl_mul (dl_r128 (Tm.d ha.2 he.2).i.r) (dl_r128 (Tm.d ha.2 he.2).i.r))) (dl_add (dl_mul (dl_r128 (Tm.d ha.1 hp.1).i.r) (dl_r128 (Tm.d ha.1 hp.1).i.r)) (dl_mul (dl_r128 (Tm.d ha.2 hp.2).i.r) (dl_r128 (Tm.d ha.2 hp.2).i.r)))) (dl_add (dl_mul (dl_r128 (Tm.d hp.1 he.1).i.r) (dl_r128 (Tm.d hp.1 he.1).i.r)) (dl_mul (dl_r128 (Tm.d hp.2 he.2).i.r) (dl_r128 (Tm.d hp.2 he.2).i.r)))) (by decide)) hcap5) (AllIn.sub (And.intro (by repeat first | exact .head _ | apply List.Mem.tail) trivial)) ?_
  refine AJ_y 2 rfl (by kernel_rfl) (by kernel_rfl) rfl rfl (YJ_bin rfl rfl rfl) ?_
  refine AJ_y 3 rfl (by kernel_rfl) (by kernel_rfl) rfl rfl (YJ_move rfl) ?_
  refine AJ_boolC (fun h37 => ?_) (fun h37 => ?_)
  · try simp only [decide_eq_true_eq, decide_eq_false_iff_not, Bool.not_eq_true', Bool.not_eq_false', Bool.and_eq_true, Bool.and_eq_false_iff, beq_iff_eq, bne_iff_ne, beq_eq_false_iff_ne, bne_eq_false_iff_eq, ne_eq, decide_eq_decide] at h37
    have hon2 : (OnL (tm p1) (tm p2) (tm a1) (tm a2) (tm e1) (tm e2)) ↔ sgn (((((((tm a1 - tm e1) * (tm a1 - tm e1)) + ((tm a2 - tm e2) * (tm a2 - tm e2))) - (((tm a1 - tm p1) * (tm a1 - tm p1)) + ((tm a2 - tm p2) * (tm a2 - tm p2)))) - (((tm p1 - tm e1) * (tm p1 - tm e1)) + ((tm p2 - tm e2) * (tm p2 - tm e2)))) * (((((tm a1 - tm e1) * (tm a1 - tm e1)) + ((tm a2 - tm e2) * (tm a2 - tm e2))) - (((tm a1 - tm p1) * (tm a1 - tm p1)) + ((tm a2 - tm p2) * (tm a2 - tm p2)))) - (((tm p1 - tm e1) * (tm p1 - tm e1)) + ((tm p2 - tm e2) * (tm p2 - tm e2))))) - (4 * ((((tm a1 - tm p1) * (tm a1 - tm p1)) + ((tm a2 - tm p2) * (tm a2 - tm p2))) * (((tm p1 - tm e1) * (tm p1 - tm e1)) + ((tm p2 - tm e2) * (tm p2 - tm e2)))))) = 0 := hon.trans ⟨fun h => h.2, fun h => ⟨h37, h⟩⟩
    first | refine AJ_y 4 rfl (by kernel_rfl) (by kernel_rfl) rfl rfl (YJ_loadN (vs := [_, _]) rfl tyi_29 (by repeat first | exact .head _ | apply List.Mem.tail) rfl rfl) ?_ | refine AJ_y 4 rfl (by kernel_rfl) (by kernel_rfl) rfl rfl (YJ_loadFactN (vs := [_, _]) rfl tyi_29 (by repeat first | exact .head _ | apply List.Mem.tail) rfl rfl) ?_
    first | refine AJ_y 5 rfl (by kernel_rfl) (by kernel_rfl) rfl rfl (YJ_loadN (vs := [_, _]) rfl tyi_29 (by repeat first | exact .head _ | apply List.Mem.tail) rfl rfl) ?_ | refine AJ_y 5 rfl (by kernel_rfl) (by kernel_rfl) rfl rfl (YJ_loadFactN (vs := [_, _]) rfl tyi_29 (by repeat first | exact .head _ | apply List.Mem.tail) rfl rfl) ?_
    first | refine AJ_y 8 rfl (by kernel_rfl) (by kernel_rfl) rfl rfl (YJ_loadN (vs := [_, _]) rfl tyi_29 (by repeat first | exact .head _ | apply List.Mem.tail) rfl rfl) ?_ | refine AJ_y 8 rfl (by kernel_rfl) (by kernel_rfl) rfl rfl (YJ_loadFactN (vs := [_, _]) rfl tyi_29 (by repeat first | exact .head _ | apply List.Mem.tail) rfl rfl) ?_
    first | refine AJ_y 9 rfl (by kernel_rfl) (by kernel_rfl) rfl rfl (YJ_loadN (vs := [_, _]) rfl tyi_29 (by repeat first | exact .head _ | apply List.Mem.tail) rfl rfl) ?_ | refine AJ_y 9 rfl (by kernel_rfl) (by kernel_rfl) rfl rfl (YJ_loadFactN (vs := [_, _]) rfl tyi_29 (by repeat first | exact .head _ | apply List.Mem.tail) rfl rfl) ?_
    refine AJ_callX 6 rfl (by kernel_rfl) rfl rfl rfl rfl rfl (nmul_c (a := (((((tm a1 - tm e1) * (tm a1 - tm e1)) + ((tm a2 - tm e2) * (tm a2 - tm e2))) - (((tm a1 - tm p1) * (tm a1 - tm p1)) + ((tm a2 - tm p2) * (tm a2 - tm p2)))) - (((tm p1 - tm e1) * (tm p1 - tm e1)) + ((tm p2 - tm e2) * (tm p2 - tm e2))))) (b := (((((tm a1 - tm e1) * (tm a1 - tm e1)) + ((tm a2 - tm e2) * (tm a2 - tm e2))) - (((tm a1 - tm p1) * (tm a1 - tm p1)) + ((tm a2 - tm p2) * (tm a2 - tm p2)))) - (((tm p1 - tm e1) * (tm p1 - tm e1)) + ((tm p2 - tm e2) * (tm p2 - tm e2))))) (Nat.le_trans (dl_sub (dl_sub (dl_add (dl_mul (dl_r128 (Tm.d ha.1 he.1).i.r) (dl_r128 (Tm.d ha.1 he.1).i.r)) (dl_mul (dl_r128 (Tm.d ha.2 he.2).i.r) (dl_r128 (Tm.d ha.2 he.2).i.r))) (dl_add (dl_mul (dl_r128 (Tm.d ha.1 hp.1).i.r) (dl_r128 (Tm.d ha.1 hp.1).i.r)) (dl_mul (dl_r128 (Tm.d ha.2 hp.2).i.r) (dl_r128 (Tm.d ha.2 hp.2).i.r)))) (dl_add (dl_mul (dl_r128 (Tm.d hp.1 he.1).i.r) (dl_r128 (Tm.d hp.1 he.1).i.r)) (dl_mul (dl_r128 (Tm.d hp.2 he.2).i.r) (dl_r128 (Tm.d hp.2 he.2).i.r)))) (by decide)) (Nat.le_trans (dl_sub (dl_sub (dl_add (dl_mul (dl_r128 (Tm.d ha.1 he.1).i.r) (dl_r128 (Tm.d ha.1 he.1).i.r)) (dl_mul (dl_r128 (Tm.d ha.2 he.2).i.r) (dl_r128 (Tm.d ha.2 he.2).i.r))) (dl_add (dl_mul (dl_r128 (Tm.d ha.1 hp.1).i.r) (dl_r128 (Tm.d ha.1 hp.1).i.r)) (dl_mul (dl_r128 (Tm.d ha.2 hp.2).i.r) (dl_r128 (Tm.d ha.2 hp.2).i.r)))) (dl_add (dl_mul (dl_r128 (Tm.d hp.1 he.1).i.r) (dl_r128 (Tm.d hp.1 he.1).i.r)) (dl_mul (dl_r128 (Tm.d hp.2 he.2).i.r) (dl_r128 (Tm.d hp.2 he.2).i.r)))) (by decide)) hcap5 hcap5) (AllIn.sub (And.intro (by repeat first | exact .head _ | apply List.Mem.tail) (And.intro (by repeat first | exact .head _ | apply List.Mem.tail) trivial))) ?_
    rintro ⟨Z6, k6⟩ hcap6
    dsimp only at hcap6
    dsimp only [List.cons_append, List.nil_append]
    refine AJ_callX 7 rfl (by kernel_rfl) rfl rfl rfl rfl rfl (nof_c i64_four) (AllIn.sub (by first | exact trivial | exact And.intro (by repeat first | exact .head _ | apply List.Mem.tail) trivial | exact And.intro (by repeat first | exact .head _ | apply List.Mem.tail) (And.intro (by repeat first | exact .head _ | apply List.Mem.tail) trivial))) ?_
    rintro ⟨Z7, k7⟩ hcap7
    dsimp only at hcap7
    dsimp only [List.cons_append, List.nil_append]
    refine AJ_callX 10 rfl (by kernel_rfl) rfl rfl rfl rfl rfl (nmul_c (a := (((tm a1 - tm p1) * (tm a1 - tm p1)) + ((tm a2 - tm p2) * (tm a2 - tm p2)))) (b := (((tm p1 - tm e1) * (tm p1 - tm e1)) + ((tm p2 - tm e2) * (tm p2 - tm e2)))) (Nat.le_trans (dl_add (dl_mul (dl_r128 (Tm.d ha.1 hp.1).i.r) (dl_r128 (Tm.d ha.1 hp.1).i.r)) (dl_mul (dl_r128 (Tm.d ha.2 hp.2).i.r) (dl_r128 (Tm.d ha.2 hp.2).i.r))) (by decide)) (Nat.le_trans (dl_add (dl_mul (dl_r128 (Tm.d hp.1 he.1).i.r) (dl_r128 (Tm.d hp.1 he.1).i.r)) (dl_mul (dl_r128 (Tm.d hp.2 he.2).i.r) (dl_r128 (Tm.d hp.2 he.2).i.r))) (by decide)) hcap1 hcap2) (AllIn.sub (And.intro (by repeat first | exact .head _ | apply List.Mem.tail) (And.intro (by repeat first | exact .head _ | apply List.Mem.tail) trivial))) ?_
    rintro ⟨Z8, k8⟩ hcap8
    dsimp only at hcap8
    dsimp only [List.cons_append, List.nil_append]
    refine AJ_callX 11 rfl (by kernel_rfl) rfl rfl rfl rfl rfl (nmul_c (a := 4) (b := ((((tm a1 - tm p1) * (tm a1 - tm p1)) + ((tm a2 - tm p2) * (tm a2 - tm p2))) * (((tm p1 - tm e1) * (tm p1 - tm e1)) + ((tm p2 - tm e2) * (tm p2 - tm e2))))) (Nat.le_trans (dl_r128 r128_four) (by decide)) (Nat.le_trans (dl_mul (dl_add (dl_mul (dl_r128 (Tm.d ha.1 hp.1).i.r) (dl_r128 (Tm.d ha.1 hp.1).i.r)) (dl_mul (dl_r128 (Tm.d ha.2 hp.2).i.r) (dl_r128 (Tm.d ha.2 hp.2).i.r))) (dl_add (dl_mul (dl_r128 (Tm.d hp.1 he.1).i.r) (dl_r128 (Tm.d hp.1 he.1).i.r)) (dl_mul (dl_r128 (Tm.d hp.2 he.2).i.r) (dl_r128 (Tm.d hp.2 he.2).i.r)))) (by decide)) hcap7 hcap8) (AllIn.sub (And.intro (by repeat first | exact .head _ | apply List.Mem.tail) (And.intro (by repeat first | exact .head _ | apply List.Mem.tail) trivial))) ?_
    rintro ⟨Z9, k9⟩ hcap9
    dsimp only at hcap9
    dsimp only [List.cons_append, List.nil_append]
    refine AJ_call0 12 rfl (by kernel_rfl) rfl rfl rfl rfl rfl (ncmp_c (a := ((((((tm a1 - tm e1) * (tm a1 - tm e1)) + ((tm a2 - tm e2) * (tm a2 - tm e2))) - (((tm a1 - tm p1) * (tm a1 - tm p1)) + ((tm a2 - tm p2) * (tm a2 - tm p2)))) - (((tm p1 - tm e1) * (tm p1 - tm e1)) + ((tm p2 - tm e2) * (tm p2 - tm e2)))) * (((((tm a1 - tm e1) * (tm a1 - tm e1)) + ((tm a2 - tm e2) * (tm a2 - tm e2))) - (((tm a1 - tm p1) * (tm a1 - tm p1)) + ((tm a2 - tm p2) * (tm a2 - tm p2)))) - (((tm p1 - tm e1) * (tm p1 - tm e1)) + ((tm p2 - tm e2) * (tm p2 - tm e2)))))) (b := (4 * ((((tm a1 - tm p1) * (tm a1 - tm p1)) + ((tm a2 - tm p2) * (tm a2 - tm p2))) * (((tm p1 - tm e1) * (tm p1 - tm e1)) + ((tm p2 - tm e2) * (tm p2 - tm e2)))))) (Nat.le_trans (dl_mul (dl_sub (dl_sub (dl_add (dl_mul (dl_r128 (Tm.d ha.1 he.1).i.r) (dl_r128 (Tm.d ha.1 he.1).i.r)) (dl_mul (dl_r128 (Tm.d ha.2 he.2).i.r) (dl_r128 (Tm.d ha.2 he.2).i.r))) (dl_add (dl_mul (dl_r128 (Tm.d ha.1 hp.1).i.r) (dl_r128 (Tm.d ha.1 hp.1).i.r)) (dl_mul (dl_r128 (Tm.d ha.2 hp.2).i.r) (dl_r128 (Tm.d ha.2 hp.2).i.r)))) (dl_add (dl_mul (dl_r128 (Tm.d hp.1 he.1).i.r) (dl_r128 (Tm.d hp.1 he.1).i.r)) (dl_mul (dl_r128 (Tm.d hp.2 he.2).i.r) (dl_r128 (Tm.d hp.2 he.2).i.r)))) (dl_sub (dl_sub (dl_add (dl_mul (dl_r128 (Tm.d ha.1 he.1).i.r) (dl_r128 (Tm.d ha.1 he.1).i.r)) (dl_mul (dl_r128 (Tm.d ha.2 he.2).i.r) (dl_r128 (Tm.d ha.2 he.2).i.r))) (dl_add (dl_mul (dl_r128 (Tm.d ha.1 hp.1).i.r) (dl_r128 (Tm.d ha.1 hp.1).i.r)) (dl_mul (dl_r128 (Tm.d ha.2 hp.2).i.r) (dl_r128 (Tm.d ha.2 hp.2).i.r)))) (dl_add (dl_mul (dl_r128 (Tm.d hp.1 he.1).i.r) (dl_r128 (Tm.d hp.1 he.1).i.r)) (dl_mul (dl_r128 (Tm.d hp.2 he.2).i.r) (dl_r128 (Tm.d hp.2 he.2).i.r))))) (by decide)) (Nat.le_trans (dl_mul (dl_r128 r128_four) (dl_mul (dl_add (dl_mul (dl_r128 (Tm.d ha.1 hp.1).i.r) (dl_r128 (Tm.d ha.1 hp.1).i.r)) (dl_mul (dl_r128 (Tm.d ha.2 hp.2).i.r) (dl_r128 (Tm.d ha.2 hp.2).i.r))) (dl_add (dl_mul (dl_r128 (Tm.d hp.1 he.1).i.r) (dl_r128 (Tm.d hp.1 he.1).i.r)) (dl_mul (dl_r128 (Tm.d hp.2 he.2).i.r) (dl_r128 (Tm.d hp.2 he.2).i.r))))) (by decide)) hcap6 hcap9) (AllIn.sub (And.intro (by repeat first | exact .head _ | apply List.Mem.tail) (And.intro (by repeat first | exact .head _ | apply List.Mem.tail) trivial))) ?_
    refine AJ_y 13 rfl (by kernel_rfl) (by kernel_rfl) rfl rfl (YJ_bin rfl rfl rfl) ?_
    refine AJ_y 14 rfl (by kernel_rfl) (by kernel_rfl) rfl rfl (YJ_pickT rfl rfl) ?_
    refine AJ_y 15 rfl (by kernel_rfl) (by kernel_rfl) rfl rfl (YJ_assign rfl) ?_
    refine AJ_done (by kernel_rfl) ?_
    refine QJ_then ?_
    refine CJ_seq ?_
    refine CJ_regD mix (by kernel_rfl) (fun _ _ _ _ _ h => h) _ _ (fun _ h => h) (fun _ h => h) ?_
    first | refine AJ_y 0 rfl (by kernel_rfl) (by kernel_rfl) rfl rfl (YJ_loadN (vs := [_, _]) rfl tyi_53 (by repeat first | exact .head _ | apply List.Mem.tail) rfl rfl) ?_ | refine AJ_y 0 rfl (by kernel_rfl) (by kernel_rfl) rfl rfl (YJ_loadFactN (vs := [_, _]) rfl tyi_53 (by repeat first | exact .head _ | apply List.Mem.tail) rfl rfl) ?_
    first | refine AJ_y 1 rfl (by kernel_rfl) (by kernel_rfl) rfl rfl (YJ_loadN (vs := [_, _]) rfl tyi_53 (by repeat first | exact .head _ | apply List.Mem.tail) rfl rfl) ?_ | refine AJ_y 1 rfl (by kernel_rfl) (by kernel_rfl) rfl rfl (YJ_loadFactN (vs := [_, _]) rfl tyi_53 (by repeat first | exact .head _ | apply List.Mem.tail) rfl rfl) ?_
    first | refine AJ_y 2 rfl (by kernel_rfl) (by kernel_rfl) rfl rfl (YJ_loadN (vs := [_, _]) rfl tyi_53 (by repeat first | exact .head _ | apply List.Mem.tail) rfl rfl) ?_ | refine AJ_y 2 rfl (by kernel_rfl) (by kernel_rfl) rfl rfl (YJ_loadFactN (vs := [_, _]) rfl tyi_53 (by repeat first | exact .head _ | apply List.Mem.tail) rfl rfl) ?_
    refine AJ_y 4 rfl (by kernel_rfl) (by kernel_rfl) rfl rfl (YJ_move rfl) ?_
    refine AJ_call0 3 rfl (by kernel_rfl) rfl rfl rfl rfl rfl (on_c hp ha he) (AllIn.sub (by first | exact trivial | exact And.intro (by repeat first | exact .head _ | apply List.Mem.tail) trivial | exact And.intro (by repeat first | exact .head _ | apply List.Mem.tail) (And.intro (by repeat first | exact .head _ | apply List.Mem.tail) trivial))) ?_
    refine AJ_y 5 rfl (by kernel_rfl) (by kernel_rfl) rfl rfl (YJ_eqb rfl rfl ubool_4) ?_
    refine AJ_y 6 rfl (by kernel_rfl) (by kernel_rfl) rfl rfl (YJ_move rfl) ?_
    refine AJ_bool (c := true) (by first | (rw [beq_iff_eq, decide_eq_decide]; exact hon2) | (rw [beq_iff_eq, decide_eq_false_iff_not]; exact hon2)) ?_
    first | refine AJ_y 7 rfl (by kernel_rfl) (by kernel_rfl) rfl rfl (YJ_loadN (vs := [_, _]) rfl tyi_53 (by repeat first | exact .head _ | apply List.Mem.tail) rfl rfl) ?_ | refine AJ_y 7 rfl (by kernel_rfl) (by kernel_rfl) rfl rfl (YJ_loadFactN (vs := [_, _]) rfl tyi_53 (by repeat first | exact .head _ | apply List.Mem.tail) rfl rfl) ?_
    first | refine AJ_y 8 rfl (by kernel_rfl) (by kernel_rfl) rfl rfl (YJ_loadN (vs := [_, _]) rfl tyi_53 (by repeat first | exact .head _ | apply List.Mem.tail) rfl rfl) ?_ | refine AJ_y 8 rfl (by kernel_rfl) (by kernel_rfl) rfl rfl (YJ_loadFactN (vs := [_, _]) rfl tyi_53 (by repeat first | exact .head _ | apply List.Mem.tail) rfl rfl) ?_
    first | refine AJ_y 9 rfl (by kernel_rfl) (by kernel_rfl) rfl rfl (YJ_loadN (vs := [_, _]) rfl tyi_53 (by repeat first | exact .head _ | apply List.Mem.tail) rfl rfl) ?_ | refine AJ_y 9 rfl (by kernel_rfl) (by kernel_rfl) rfl rfl (YJ_loadFactN (vs := [_, _]) rfl tyi_53 (by repeat first | exact .head _ | apply List.Mem.tail) rfl rfl) ?_
    refine AJ_y 11 rfl (by kernel_rfl) (by kernel_rfl) rfl rfl (YJ_move rfl) ?_
    refine AJ_call0 10 rfl (by kernel_rfl) rfl rfl rfl rfl rfl (on_swap_c hp ha he) (AllIn.sub (by first | exact trivial | exact And.intro (by repeat first | exact .head _ | apply List.Mem.tail) trivial | exact And.intro (by repeat first | exact .head _ | apply List.Mem.tail) (And.intro (by repeat first | exact .head _ | apply List.Mem.tail) trivial))) ?_
    refine AJ_y 12 rfl (by kernel_rfl) (by kernel_rfl) rfl rfl (YJ_eqb rfl rfl ubool_4) ?_
    refine AJ_y 13 rfl (by kernel_rfl) (by kernel_rfl) rfl rfl (YJ_pickT rfl rfl) ?_
    refine AJ_y 14 rfl (by kernel_rfl) (by kernel_rfl) rfl rfl (YJ_move rfl) ?_
    refine AJ_bool (c := true) (by first | (rw [beq_iff_eq, decide_eq_decide]; exact hon2) | (rw [beq_iff_eq, decide_eq_false_iff_not]; exact hon2)) ?_
    first | refine AJ_y 15 rfl (by kernel_rfl) (by kernel_rfl) rfl rfl (YJ_loadN (vs := [_, _]) rfl tyi_53 (by repeat first | exact .head _ | apply List.Mem.tail) rfl rfl) ?_ | refine AJ_y 15 rfl (by kernel_rfl) (by kernel_rfl) rfl rfl (YJ_loadFactN (vs := [_, _]) rfl tyi_53 (by repeat first | exact .head _ | apply List.Mem.tail) rfl rfl) ?_
    first | refine AJ_y 16 rfl (by kernel_rfl) (by kernel_rfl) rfl rfl (YJ_loadN (vs := [_, _]) rfl tyi_53 (by repeat first | exact .head _ | apply List.Mem.tail) rfl rfl) ?_ | refine AJ_y 16 rfl (by kernel_rfl) (by kernel_rfl) rfl rfl (YJ_loadFactN (vs := [_, _]) rfl tyi_53 (by repeat first | exact .head _ | apply List.Mem.tail) rfl rfl) ?_
    first | refine AJ_y 17 rfl (by kernel_rfl) (by kernel_rfl) rfl rfl (YJ_loadN (vs := [_, _]) rfl tyi_53 (by repeat first | exact .head _ | apply List.Mem.tail) rfl rfl) ?_ | refine AJ_y 17 rfl (by kernel_rfl) (by kernel_rfl) rfl rfl (YJ_loadFactN (vs := [_, _]) rfl tyi_53 (by repeat first | exact .head _ | apply List.Mem.tail) rfl rfl) ?_
    refine AJ_y 19 rfl (by kernel_rfl) (by kernel_rfl) rfl rfl (YJ_move rfl) ?_
    refine AJ_call0 18 rfl (by kernel_rfl) rfl rfl rfl rfl rfl (between_c hp ha he) (AllIn.sub (by first | exact trivial | exact And.intro (by repeat first | exact .head _ | apply List.Mem.tail) trivial | exact And.intro (by repeat first | exact .head _ | apply List.Mem.tail) (And.intro (by repeat first | exact .head _ | apply List.Mem.tail) trivial))) ?_
    refine AJ_y 20 rfl (by kernel_rfl) (by kernel_rfl) rfl rfl (YJ_move rfl) ?_
    refine AJ_boolC (fun h69 => ?_) (fun h69 => ?_)
    · try simp only [decide_eq_true_eq, decide_eq_false_iff_not, Bool.not_eq_true', Bool.not_eq_false', Bool.and_eq_true, Bool.and_eq_false_iff, beq_iff_eq, bne_iff_ne, beq_eq_false_iff_ne, bne_eq_false_iff_eq, ne_eq, decide_eq_decide] at h69
      first | refine AJ_y 21 rfl (by kernel_rfl) (by kernel_rfl) rfl rfl (YJ_loadN (vs := [_, _]) rfl tyi_53 (by repeat first | exact .head _ | apply List.Mem.tail) rfl rfl) ?_ | refine AJ_y 21 rfl (by kernel_rfl) (by kernel_rfl) rfl rfl (YJ_loadFactN (vs := [_, _]) rfl tyi_53 (by repeat first | exact .head _ | apply List.Mem.tail) rfl rfl) ?_
      first | refine AJ_y 22 rfl (by kernel_rfl) (by kernel_rfl) rfl rfl (YJ_loadN (vs := [_, _]) rfl tyi_53 (by repeat first | exact .head _ | apply List.Mem.tail) rfl rfl) ?_ | refine AJ_y 22 rfl (by kernel_rfl) (by kernel_rfl) rfl rfl (YJ_loadFactN (vs := [_, _]) rfl tyi_53 (by repeat first | exact .head _ | apply List.Mem.tail) rfl rfl) ?_
      refine AJ_y 23 rfl (by kernel_rfl) (by kernel_rfl) rfl rfl (YJ_eqs rfl rfl (fun _ => eqs_neq_53 ..)) ?_
      refine AJ_y 24 rfl (by kernel_rfl) (by kernel_rfl) rfl rfl (YJ_pickT rfl rfl) ?_
      refine AJ_y 25 rfl (by kernel_rfl) (by kernel_rfl) rfl rfl (YJ_move rfl) ?_
      refine AJ_boolC (fun h74 => ?_) (fun h74 => ?_)
      · try simp only [decide_eq_true_eq, decide_eq_false_iff_not, Bool.not_eq_true', Bool.not_eq_false', Bool.and_eq_true, Bool.and_eq_false_iff, beq_iff_eq, bne_iff_ne, beq_eq_false_iff_ne, bne_eq_false_iff_eq, ne_eq, decide_eq_decide] at h74
        first | refine AJ_y 26 rfl (by kernel_rfl) (by kernel_rfl) rfl rfl (YJ_loadN (vs := [_, _]) rfl tyi_53 (by repeat first | exact .head _ | apply List.Mem.tail) rfl rfl) ?_ | refine AJ_y 26 rfl (by kernel_rfl) (by kernel_rfl) rfl rfl (YJ_loadFactN (vs := [_, _]) rfl tyi_53 (by repeat first | exact .head _ | apply List.Mem.tail) rfl rfl) ?_
        first | refine AJ_y 27 rfl (by kernel_rfl) (by kernel_rfl) rfl rfl (YJ_loadN (vs := [_, _]) rfl tyi_53 (by repeat first | exact .head _ | apply List.Mem.tail) rfl rfl) ?_ | refine AJ_y 27 rfl (by kernel_rfl) (by kernel_rfl) rfl rfl (YJ_loadFactN (vs := [_, _]) rfl tyi_53 (by repeat first | exact .head _ | apply List.Mem.tail) rfl rfl) ?_
        refine AJ_y 28 rfl (by kernel_rfl) (by kernel_rfl) rfl rfl (YJ_eqs rfl rfl (fun _ => eqs_neq_53 ..)) ?_
        refine AJ_y 29 rfl (by kernel_rfl) (by kernel_rfl) rfl rfl (YJ_pickT rfl rfl) ?_
        refine AJ_y 30 rfl (by kernel_rfl) (by kernel_rfl) rfl rfl (YJ_eqb rfl rfl ubool_4) ?_
        refine AJ_y 31 rfl (by kernel_rfl) (by kernel_rfl) rfl rfl (YJ_pickT rfl rfl) ?_
        refine AJ_y 32 rfl (by kernel_rfl) (by kernel_rfl) rfl rfl (YJ_move rfl) ?_
        refine AJ_bool (c := true) (by first | (rw [beq_iff_eq, decide_eq_false_iff_not]; unfold Btw; exact fun h => hon2 h.2.2) | (rw [beq_iff_eq, decide_eq_false_iff_not]; unfold Btw; exact fun h => h69 (hon2.1 h.2.2)) | (rw [beq_iff_eq, decide_eq_false_iff_not]; unfold Btw; omega) | (rw [beq_iff_eq]; unfold Btw; have := hon2.2 h69; simp [*])) ?_
        first | refine AJ_y 33 rfl (by kernel_rfl) (by kernel_rfl) rfl rfl (YJ_loadN (vs := [_, _]) rfl tyi_53 (by repeat first | exact .head _ | apply List.Mem.tail) rfl rfl) ?_ | refine AJ_y 33 rfl (by kernel_rfl) (by kernel_rfl) rfl rfl (YJ_loadFactN (vs := [_, _]) rfl tyi_53 (by repeat first | exact .head _ | apply List.Mem.tail) rfl rfl) ?_
        first | refine AJ_y 34 rfl (by kernel_rfl) (by kernel_rfl) rfl rfl (YJ_loadN (vs := [_, _]) rfl tyi_53 (by repeat first | exact .head _ | apply List.Mem.tail) rfl rfl) ?_ | refine AJ_y 34 rfl (by kernel_rfl) (by kernel_rfl) rfl rfl (YJ_loadFactN (vs := [_, _]) rfl tyi_53 (by repeat first | exact .head _ | apply List.Mem.tail) rfl rfl) ?_
        first | refine AJ_y 36 rfl (by kernel_rfl) (by kernel_rfl) rfl rfl (YJ_loadN (vs := [_, _]) rfl tyi_29 (by repeat first | exact .head _ | apply List.Mem.tail) rfl rfl) ?_ | refine AJ_y 36 rfl (by kernel_rfl) (by kernel_rfl) rfl rfl (YJ_loadFactN (vs := [_, _]) rfl tyi_29 (by repeat first | exact .head _ | apply List.Mem.tail) rfl rfl) ?_
        refine AJ_callX 35 rfl (by kernel_rfl) rfl rfl rfl rfl rfl (dist2_c ha he) (AllIn.sub (by first | exact trivial | exact And.intro (by repeat first | exact .head _ | apply List.Mem.tail) trivial | exact And.intro (by repeat first | exact .head _ | apply List.Mem.tail) (And.intro (by repeat first | exact .head _ | apply List.Mem.tail) trivial))) ?_
        rintro ⟨Z10, k10⟩ hcap10
        dsimp only at hcap10
        dsimp only [List.cons_append, List.nil_append]
        refine AJ_call0 37 rfl (by kernel_rfl) rfl rfl rfl rfl rfl (ncmp_c (a := (((tm a1 - tm e1) * (tm a1 - tm e1)) + ((tm a2 - tm e2) * (tm a2 - tm e2)))) (b := (((tm a1 - tm e1) * (tm a1 - tm e1)) + ((tm a2 - tm e2) * (tm a2 - tm e2)))) (Nat.le_trans (dl_add (dl_mul (dl_r128 (Tm.d ha.1 he.1).i.r) (dl_r128 (Tm.d ha.1 he.1).i.r)) (dl_mul (dl_r128 (Tm.d ha.2 he.2).i.r) (dl_r128 (Tm.d ha.2 he.2).i.r))) (by decide)) (Nat.le_trans (dl_add (dl_mul (dl_r128 (Tm.d ha.1 he.1).i.r) (dl_r128 (Tm.d ha.1 he.1).i.r)) (dl_mul (dl_r128 (Tm.d ha.2 he.2).i.r) (dl_r128 (Tm.d ha.2 he.2).i.r))) (by decide)) hcap10 hcap3) (AllIn.sub (And.intro (by repeat first | exact .head _ | apply List.Mem.tail) (And.intro (by repeat first | exact .head _ | apply List.Mem.tail) trivial))) ?_
        refine AJ_y 38 rfl (by kernel_rfl) (by kernel_rfl) rfl rfl (YJ_bin rfl rfl rfl) ?_
        refine AJ_val (v := .bool true) (congrArg Value.bool (decide_eq_true (sgn_self _))) ?_
        refine AJ_y 39 rfl (by kernel_rfl) (by kernel_rfl) rfl rfl (YJ_pickT rfl rfl) ?_
        refine AJ_y 40 rfl (by kernel_rfl) (by kernel_rfl) rfl rfl (YJ_assign rfl) ?_
        refine AJ_done (by kernel_rfl) ?_
        refine QJ_then ?_
        refine CJ_ret ?_
        refine QJ_fin (.inl rfl) (μ' := []) (μr := _) (φ' := []) (res_tmp rfl rfl) (List.Perm.refl _) (fun _ h => nomatch h) ?_
        exact ⟨rfl, rfl, rfl⟩
      · try simp only [decide_eq_true_eq, decide_eq_false_iff_not, Bool.not_eq_true', Bool.not_eq_false', Bool.and_eq_true, Bool.and_eq_false_iff, beq_iff_eq, bne_iff_ne, beq_eq_false_iff_ne, bne_eq_false_iff_eq, ne_eq, decide_eq_decide] at h74
        refine AJ_skip 26 rfl (by kernel_rfl) (by kernel_rfl) rfl rfl ?_
        refine AJ_skip 27 rfl (by kernel_rfl) (by kernel_rfl) rfl rfl ?_
        refine AJ_skip 28 rfl (by kernel_rfl) (by kernel_rfl) rfl rfl ?_
        refine AJ_y 29 rfl (by kernel_rfl) (by kernel_rfl) rfl rfl (YJ_pickF rfl rfl) ?_
        refine AJ_y 30 rfl (by kernel_rfl) (by kernel_rfl) rfl rfl (YJ_eqb rfl rfl ubool_4) ?_
        refine AJ_y 31 rfl (by kernel_rfl) (by kernel_rfl) rfl rfl (YJ_pickT rfl rfl) ?_
        refine AJ_y 32 rfl (by kernel_rfl) (by kernel_rfl) rfl rfl (YJ_move rfl) ?_
        refine AJ_bool (c := true) (by first | (rw [beq_iff_eq, decide_eq_false_iff_not]; unfold Btw; exact fun h => hon2 h.2.2) | (rw [beq_iff_eq, decide_eq_false_iff_not]; unfold Btw; exact fun h => h69 (hon2.1 h.2.2)) | (rw [beq_iff_eq, decide_eq_false_iff_not]; unfold Btw; omega) | (rw [beq_iff_eq]; unfold Btw; have := hon2.2 h69; simp [*])) ?_
        first | refine AJ_y 33 rfl (by kernel_rfl) (by kernel_rfl) rfl rfl (YJ_loadN (vs := [_, _]) rfl tyi_53 (by repeat first | exact .head _ | apply List.Mem.tail) rfl rfl) ?_ | refine AJ_y 33 rfl (by kernel_rfl) (by kernel_rfl) rfl rfl (YJ_loadFactN (vs := [_, _]) rfl tyi_53 (by repeat first | exact .head _ | apply List.Mem.tail) rfl rfl) ?_
        first | refine AJ_y 34 rfl (by kernel_rfl) (by kernel_rfl) rfl rfl (YJ_loadN (vs := [_, _]) rfl tyi_53 (by repeat first | exact .head _ | apply List.Mem.tail) rfl rfl) ?_ | refine AJ_y 34 rfl (by kernel_rfl) (by kernel_rfl) rfl rfl (YJ_loadFactN (vs := [_, _]) rfl tyi_53 (by repeat first | exact .head _ | apply List.Mem.tail) rfl rfl) ?_
        first | refine AJ_y 36 rfl (by kernel_rfl) (by kernel_rfl) rfl rfl (YJ_loadN (vs := [_, _]) rfl tyi_29 (by repeat first | exact .head _ | apply List.Mem.tail) rfl rfl) ?_ | refine AJ_y 36 rfl (by kernel_rfl) (by kernel_rfl) rfl rfl (YJ_loadFactN (vs := [_, _]) rfl tyi_29 (by repeat first | exact .head _ | apply List.Mem.tail) rfl rfl) ?_
        refine AJ_callX 35 rfl (by kernel_rfl) rfl rfl rfl rfl rfl (dist2_c ha he) (AllIn.sub (by first | exact trivial | exact And.intro (by repeat first | exact .head _ | apply List.Mem.tail) trivial | exact And.intro (by repeat first | exact .head _ | apply List.Mem.tail) (And.intro (by repeat first | exact .head _ | apply List.Mem.tail) trivial))) ?_
        rintro ⟨Z10, k10⟩ hcap10
        dsimp only at hcap10
        dsimp only [List.cons_append, List.nil_append]
        refine AJ_call0 37 rfl (by kernel_rfl) rfl rfl rfl rfl rfl (ncmp_c (a := (((tm a1 - tm e1) * (tm a1 - tm e1)) + ((tm a2 - tm e2) * (tm a2 - tm e2)))) (b := (((tm a1 - tm e1) * (tm a1 - tm e1)) + ((tm a2 - tm e2) * (tm a2 - tm e2)))) (Nat.le_trans (dl_add (dl_mul (dl_r128 (Tm.d ha.1 he.1).i.r) (dl_r128 (Tm.d ha.1 he.1).i.r)) (dl_mul (dl_r128 (Tm.d ha.2 he.2).i.r) (dl_r128 (Tm.d ha.2 he.2).i.r))) (by decide)) (Nat.le_trans (dl_add (dl_mul (dl_r128 (Tm.d ha.1 he.1).i.r) (dl_r128 (Tm.d ha.1 he.1).i.r)) (dl_mul (dl_r128 (Tm.d ha.2 he.2).i.r) (dl_r128 (Tm.d ha.2 he.2).i.r))) (by decide)) hcap10 hcap3) (AllIn.sub (And.intro (by repeat first | exact .head _ | apply List.Mem.tail) (And.intro (by repeat first | exact .head _ | apply List.Mem.tail) trivial))) ?_
        refine AJ_y 38 rfl (by kernel_rfl) (by kernel_rfl) rfl rfl (YJ_bin rfl rfl rfl) ?_
        refine AJ_val (v := .bool true) (congrArg Value.bool (decide_eq_true (sgn_self _))) ?_
        refine AJ_y 39 rfl (by kernel_rfl) (by kernel_rfl) rfl rfl (YJ_pickT rfl rfl) ?_
        refine AJ_y 40 rfl (by kernel_rfl) (by kernel_rfl) rfl rfl (YJ_assign rfl) ?_
        refine AJ_done (by kernel_rfl) ?_
        refine QJ_then ?_
        refine CJ_ret ?_
        refine QJ_fin (.inl rfl) (μ' := []) (μr := _) (φ' := []) (res_tmp rfl rfl) (List.Perm.refl _) (fun _ h => nomatch h) ?_
        exact ⟨rfl, rfl, rfl⟩
    · try simp only [decide_eq_true_eq, decide_eq_false_iff_not, Bool.not_eq_true', Bool.not_eq_false', Bool.and_eq_true, Bool.and_eq_false_iff, beq_iff_eq, bne_iff_ne, beq_eq_false_iff_ne, bne_eq_false_iff_eq, ne_eq, decide_eq_decide] at h69
      refine AJ_skip 21 rfl (by kernel_rfl) (by kernel_rfl) rfl rfl ?_
      refine AJ_skip 22 rfl (by kernel_rfl) (by kernel_rfl) rfl rfl ?_
      refine AJ_skip 23 rfl (by kernel_rfl) (by kernel_rfl) rfl rfl ?_
      refine AJ_y 24 rfl (by kernel_rfl) (by kernel_rfl) rfl rfl (YJ_pickF rfl rfl) ?_
      refine AJ_y 25 rfl (by kernel_rfl) (by kernel_rfl) rfl rfl (YJ_move rfl) ?_
      refine AJ_skip 26 rfl (by kernel_rfl) (by kernel_rfl) rfl rfl ?_
      refine AJ_skip 27 rfl (by kernel_rfl) (by kernel_rfl) rfl rfl ?_
      refine AJ_skip 28 rfl (by kernel_rfl) (by kernel_rfl) rfl rfl ?_
      refine AJ_y 29 rfl (by kernel_rfl) (by kernel_rfl) rfl rfl (YJ_pickF rfl rfl) ?_
      refine AJ_y 30 rfl (by kernel_rfl) (by kernel_rfl) rfl rfl (YJ_eqb rfl rfl ubool_4) ?_
      refine AJ_y 31 rfl (by kernel_rfl) (by kernel_rfl) rfl rfl (YJ_pickT rfl rfl) ?_
      refine AJ_y 32 rfl (by kernel_rfl) (by kernel_rfl) rfl rfl (YJ_move rfl) ?_
      refine AJ_bool (c := true) (by first | (rw [beq_iff_eq, decide_eq_false_iff_not]; unfold Btw; exact fun h => hon2 h.2.2) | (rw [beq_iff_eq, decide_eq_false_iff_not]; unfold Btw; exact fun h => h69 (hon2.1 h.2.2)) | (rw [beq_iff_eq, decide_eq_false_iff_not]; unfold Btw; omega) | (rw [beq_iff_eq]; unfold Btw; have := hon2.2 h69; simp [*])) ?_
      first | refine AJ_y 33 rfl (by kernel_rfl) (by kernel_rfl) rfl rfl (YJ_loadN (vs := [_, _]) rfl tyi_53 (by repeat first | exact .head _ | apply List.Mem.tail) rfl rfl) ?_ | refine AJ_y 33 rfl (by kernel_rfl) (by kernel_rfl) rfl rfl (YJ_loadFactN (vs := [_, _]) rfl tyi_53 (by repeat first | exact .head _ | apply List.Mem.tail) rfl rfl) ?_
      first | refine AJ_y 34 rfl (by kernel_rfl) (by kernel_rfl) rfl rfl (YJ_loadN (vs := [_, _]) rfl tyi_53 (by repeat first | exact .head _ | apply List.Mem.tail) rfl rfl) ?_ | refine AJ_y 34 rfl (by kernel_rfl) (by kernel_rfl) rfl rfl (YJ_loadFactN (vs := [_, _]) rfl tyi_53 (by repeat first | exact .head _ | apply List.Mem.tail) rfl rfl) ?_
      first | refine AJ_y 36 rfl (by kernel_rfl) (by kernel_rfl) rfl rfl (YJ_loadN (vs := [_, _]) rfl tyi_29 (by repeat first | exact .head _ | apply List.Mem.tail) rfl rfl) ?_ | refine AJ_y 36 rfl (by kernel_rfl) (by kernel_rfl) rfl rfl (YJ_loadFactN (vs := [_, _]) rfl tyi_29 (by repeat first | exact .head _ | apply List.Mem.tail) rfl rfl) ?_
      refine AJ_callX 35 rfl (by kernel_rfl) rfl rfl rfl rfl rfl (dist2_c ha he) (AllIn.sub (by first | exact trivial | exact And.intro (by repeat first | exact .head _ | apply List.Mem.tail) trivial | exact And.intro (by repeat first | exact .head _ | apply List.Mem.tail) (And.intro (by repeat first | exact .head _ | apply List.Mem.tail) trivial))) ?_
      rintro ⟨Z10, k10⟩ hcap10
      dsimp only at hcap10
      dsimp only [List.cons_append, List.nil_append]
      refine AJ_call0 37 rfl (by kernel_rfl) rfl rfl rfl rfl rfl (ncmp_c (a := (((tm a1 - tm e1) * (tm a1 - tm e1)) + ((tm a2 - tm e2) * (tm a2 - tm e2)))) (b := (((tm a1 - tm e1) * (tm a1 - tm e1)) + ((tm a2 - tm e2) * (tm a2 - tm e2)))) (Nat.le_trans (dl_add (dl_mul (dl_r128 (Tm.d ha.1 he.1).i.r) (dl_r128 (Tm.d ha.1 he.1).i.r)) (dl_mul (dl_r128 (Tm.d ha.2 he.2).i.r) (dl_r128 (Tm.d ha.2 he.2).i.r))) (by decide)) (Nat.le_trans (dl_add (dl_mul (dl_r128 (Tm.d ha.1 he.1).i.r) (dl_r128 (Tm.d ha.1 he.1).i.r)) (dl_mul (dl_r128 (Tm.d ha.2 he.2).i.r) (dl_r128 (Tm.d ha.2 he.2).i.r))) (by decide)) hcap10 hcap3) (AllIn.sub (And.intro (by repeat first | exact .head _ | apply List.Mem.tail) (And.intro (by repeat first | exact .head _ | apply List.Mem.tail) trivial))) ?_
      refine AJ_y 38 rfl (by kernel_rfl) (by kernel_rfl) rfl rfl (YJ_bin rfl rfl rfl) ?_
      refine AJ_val (v := .bool true) (congrArg Value.bool (decide_eq_true (sgn_self _))) ?_
      refine AJ_y 39 rfl (by kernel_rfl) (by kernel_rfl) rfl rfl (YJ_pickT rfl rfl) ?_
      refine AJ_y 40 rfl (by kernel_rfl) (by kernel_rfl) rfl rfl (YJ_assign rfl) ?_
      refine AJ_done (by kernel_rfl) ?_
      refine QJ_then ?_
      refine CJ_ret ?_
      refine QJ_fin (.inl rfl) (μ' := []) (μr := _) (φ' := []) (res_tmp rfl rfl) (List.Perm.refl _) (fun _ h => nomatch h) ?_
      exact ⟨rfl, rfl, rfl⟩
  · try simp only [decide_eq_true_eq, decide_eq_false_iff_not, Bool.not_eq_true', Bool.not_eq_false', Bool.and_eq_true, Bool.and_eq_false_iff, beq_iff_eq, bne_iff_ne, beq_eq_false_iff_ne, bne_eq_false_iff_eq, ne_eq, decide_eq_decide] at h37
    have hon2 : ¬ (OnL (tm p1) (tm p2) (tm a1) (tm a2) (tm e1) (tm e2)) := fun h => h37 (hon.1 h).1
    refine AJ_skip 4 rfl (by kernel_rfl) (by kernel_rfl) rfl rfl ?_
    refine AJ_skip 5 rfl (by kernel_rfl) (by kernel_rfl) rfl rfl ?_
    refine AJ_skip 8 rfl (by kernel_rfl) (by kernel_rfl) rfl rfl ?_
    refine AJ_skip 9 rfl (by kernel_rfl) (by kernel_rfl) rfl rfl ?_
    refine AJ_skip 6 rfl (by kernel_rfl) (by kernel_rfl) rfl rfl ?_
    refine AJ_skip 7 rfl (by kernel_rfl) (by kernel_rfl) rfl rfl ?_
    refine AJ_skip 10 rfl (by kernel_rfl) (by kernel_rfl) rfl rfl ?_
    refine AJ_skip 11 rfl (by kernel_rfl) (by kernel_rfl) rfl rfl ?_
    refine AJ_skip 12 rfl (by kernel_rfl) (by kernel_rfl) rfl rfl ?_
    refine AJ_skip 13 rfl (by kernel_rfl) (by kernel_rfl) rfl rfl ?_
    refine AJ_y 14 rfl (by kernel_rfl) (by kernel_rfl) rfl rfl (YJ_pickF rfl rfl) ?_
    refine AJ_y 15 rfl (by kernel_rfl) (by kernel_rfl) rfl rfl (YJ_assign rfl) ?_
    refine AJ_done (by kernel_rfl) ?_
    refine QJ_then ?_
    refine CJ_seq ?_
    refine CJ_regD mix (by kernel_rfl) (fun _ _ _ _ _ h => h) _ _ (fun _ h => h) (fun _ h => h) ?_
    first | refine AJ_y 0 rfl (by kernel_rfl) (by kernel_rfl) rfl rfl (YJ_loadN (vs := [_, _]) rfl tyi_53 (by repeat first | exact .head _ | apply List.Mem.tail) rfl rfl) ?_ | refine AJ_y 0 rfl (by kernel_rfl) (by kernel_rfl) rfl rfl (YJ_loadFactN (vs := [_, _]) rfl tyi_53 (by repeat first | exact .head _ | apply List.Mem.tail) rfl rfl) ?_
    first | refine AJ_y 1 rfl (by kernel_rfl) (by kernel_rfl) rfl rfl (YJ_loadN (vs := [_, _]) rfl tyi_53 (by repeat first | exact .head _ | apply List.Mem.tail) rfl rfl) ?_ | refine AJ_y 1 rfl (by kernel_rfl) (by kernel_rfl) rfl rfl (YJ_loadFactN (vs := [_, _]) rfl tyi_53 (by repeat first | exact .head _ | apply List.Mem.tail) rfl rfl) ?_
    first | refine AJ_y 2 rfl (by kernel_rfl) (by kernel_rfl) rfl rfl (YJ_loadN (vs := [_, _]) rfl tyi_53 (by repeat first | exact .head _ | apply List.Mem.tail) rfl rfl) ?_ | refine AJ_y 2 rfl (by kernel_rfl) (by kernel_rfl) rfl rfl (YJ_loadFactN (vs := [_, _]) rfl tyi_53 (by repeat first | exact .head _ | apply List.Mem.tail) rfl rfl) ?_
    refine AJ_y 4 rfl (by kernel_rfl) (by kernel_rfl) rfl rfl (YJ_move rfl) ?_
    refine AJ_call0 3 rfl (by kernel_rfl) rfl rfl rfl rfl rfl (on_c hp ha he) (AllIn.sub (by first | exact trivial | exact And.intro (by repeat first | exact .head _ | apply List.Mem.tail) trivial | exact And.intro (by repeat first | exact .head _ | apply List.Mem.tail) (And.intro (by repeat first | exact .head _ | apply List.Mem.tail) trivial))) ?_
    refine AJ_y 5 rfl (by kernel_rfl) (by kernel_rfl) rfl rfl (YJ_eqb rfl rfl ubool_4) ?_
    refine AJ_y 6 rfl (by kernel_rfl) (by kernel_rfl) rfl rfl (YJ_move rfl) ?_
    refine AJ_bool (c := true) (by first | (rw [beq_iff_eq, decide_eq_decide]; exact hon2) | (rw [beq_iff_eq, decide_eq_false_iff_not]; exact hon2)) ?_
    first | refine AJ_y 7 rfl (by kernel_rfl) (by kernel_rfl) rfl rfl (YJ_loadN (vs := [_, _]) rfl tyi_53 (by repeat first | exact .head _ | apply List.Mem.tail) rfl rfl) ?_ | refine AJ_y 7 rfl (by kernel_rfl) (by kernel_rfl) rfl rfl (YJ_loadFactN (vs := [_, _]) rfl tyi_53 (by repeat first | exact .head _ | apply List.Mem.tail) rfl rfl) ?_
    first | refine AJ_y 8 rfl (by kernel_rfl) (by kernel_rfl) rfl rfl (YJ_loadN (vs := [_, _]) rfl tyi_53 (by repeat first | exact .head _ | apply List.Mem.tail) rfl rfl) ?_ | refine AJ_y 8 rfl (by kernel_rfl) (by kernel_rfl) rfl rfl (YJ_loadFactN (vs := [_, _]) rfl tyi_53 (by repeat first | exact .head _ | apply List.Mem.tail) rfl rfl) ?_
    first | refine AJ_y 9 rfl (by kernel_rfl) (by kernel_rfl) rfl rfl (YJ_loadN (vs := [_, _]) rfl tyi_53 (by repeat first | exact .head _ | apply List.Mem.tail) rfl rfl) ?_ | refine AJ_y 9 rfl (by kernel_rfl) (by kernel_rfl) rfl rfl (YJ_loadFactN (vs := [_, _]) rfl tyi_53 (by repeat first | exact .head _ | apply List.Mem.tail) rfl rfl) ?_
    refine AJ_y 11 rfl (by kernel_rfl) (by kernel_rfl) rfl rfl (YJ_move rfl) ?_
    refine AJ_call0 10 rfl (by kernel_rfl) rfl rfl rfl rfl rfl (on_swap_c hp ha he) (AllIn.sub (by first | exact trivial | exact And.intro (by repeat first | exact .head _ | apply List.Mem.tail) trivial | exact And.intro (by repeat first | exact .head _ | apply List.Mem.tail) (And.intro (by repeat first | exact .head _ | apply List.Mem.tail) trivial))) ?_
    refine AJ_y 12 rfl (by kernel_rfl) (by kernel_rfl) rfl rfl (YJ_eqb rfl rfl ubool_4) ?_
    refine AJ_y 13 rfl (by kernel_rfl) (by kernel_rfl) rfl rfl (YJ_pickT rfl rfl) ?_
    refine AJ_y 14 rfl (by kernel_rfl) (by kernel_rfl) rfl rfl (YJ_move rfl) ?_
    refine AJ_bool (c := true) (by first | (rw [beq_iff_eq, decide_eq_decide]; exact hon2) | (rw [beq_iff_eq, decide_eq_false_iff_not]; exact hon2)) ?_
    first | refine AJ_y 15 rfl (by kernel_rfl) (by kernel_rfl) rfl rfl (YJ_loadN (vs := [_, _]) rfl tyi_53 (by repeat first | exact .head _ | apply List.Mem.tail) rfl rfl) ?_ | refine AJ_y 15 rfl (by kernel_rfl) (by kernel_rfl) rfl rfl (YJ_loadFactN (vs := [_, _]) rfl tyi_53 (by repeat first | exact .head _ | apply List.Mem.tail) rfl rfl) ?_
    first | refine AJ_y 16 rfl (by kernel_rfl) (by kernel_rfl) rfl rfl (YJ_loadN (vs := [_, _]) rfl tyi_53 (by repeat first | exact .head _ | apply List.Mem.tail) rfl rfl) ?_ | refine AJ_y 16 rfl (by kernel_rfl) (by kernel_rfl) rfl rfl (YJ_loadFactN (vs := [_, _]) rfl tyi_53 (by repeat first | exact .head _ | apply List.Mem.tail) rfl rfl) ?_
    first | refine AJ_y 17 rfl (by kernel_rfl) (by kernel_rfl) rfl rfl (YJ_loadN (vs := [_, _]) rfl tyi_53 (by repeat first | exact .head _ | apply List.Mem.tail) rfl rfl) ?_ | refine AJ_y 17 rfl (by kernel_rfl) (by kernel_rfl) rfl rfl (YJ_loadFactN (vs := [_, _]) rfl tyi_53 (by repeat first | exact .head _ | apply List.Mem.tail) rfl rfl) ?_
    refine AJ_y 19 rfl (by kernel_rfl) (by kernel_rfl) rfl rfl (YJ_move rfl) ?_
    refine AJ_call0 18 rfl (by kernel_rfl) rfl rfl rfl rfl rfl (between_c hp ha he) (AllIn.sub (by first | exact trivial | exact And.intro (by repeat first | exact .head _ | apply List.Mem.tail) trivial | exact And.intro (by repeat first | exact .head _ | apply List.Mem.tail) (And.intro (by repeat first | exact .head _ | apply List.Mem.tail) trivial))) ?_
    refine AJ_y 20 rfl (by kernel_rfl) (by kernel_rfl) rfl rfl (YJ_move rfl) ?_
    refine AJ_skip 21 rfl (by kernel_rfl) (by kernel_rfl) rfl rfl ?_
    refine AJ_skip 22 rfl (by kernel_rfl) (by kernel_rfl) rfl rfl ?_
    refine AJ_skip 23 rfl (by kernel_rfl) (by kernel_rfl) rfl rfl ?_
    refine AJ_y 24 rfl (by kernel_rfl) (by kernel_rfl) rfl rfl (YJ_pickF rfl rfl) ?_
    refine AJ_y 25 rfl (by kernel_rfl) (by kernel_rfl) rfl rfl (YJ_move rfl) ?_
    refine AJ_skip 26 rfl (by kernel_rfl) (by kernel_rfl) rfl rfl ?_
    refine AJ_skip 27 rfl (by kernel_rfl) (by kernel_rfl) rfl rfl ?_
    refine AJ_skip 28 rfl (by kernel_rfl) (by kernel_rfl) rfl rfl ?_
    refine AJ_y 29 rfl (by kernel_rfl) (by kernel_rfl) rfl rfl (YJ_pickF rfl rfl) ?_
    refine AJ_y 30 rfl (by kernel_rfl) (by kernel_rfl) rfl rfl (YJ_eqb rfl rfl ubool_4) ?_
    refine AJ_y 31 rfl (by kernel_rfl) (by kernel_rfl) rfl rfl (YJ_pickT rfl rfl) ?_
    refine AJ_y 32 rfl (by kernel_rfl) (by kernel_rfl) rfl rfl (YJ_move rfl) ?_
    refine AJ_bool (c := true) (by first | (rw [beq_iff_eq, decide_eq_false_iff_not]; unfold Btw; exact fun h => hon2 h.2.2) | (rw [beq_iff_eq, decide_eq_false_iff_not]; unfold Btw; exact fun h => h69 (hon2.1 h.2.2)) | (rw [beq_iff_eq, decide_eq_false_iff_not]; unfold Btw; omega) | (rw [beq_iff_eq]; unfold Btw; have := hon2.2 h69; simp [*])) ?_
    first | refine AJ_y 33 rfl (by kernel_rfl) (by kernel_rfl) rfl rfl (YJ_loadN (vs := [_, _]) rfl tyi_53 (by repeat first | exact .head _ | apply List.Mem.tail) rfl rfl) ?_ | refine AJ_y 33 rfl (by kernel_rfl) (by kernel_rfl) rfl rfl (YJ_loadFactN (vs := [_, _]) rfl tyi_53 (by repeat first | exact .head _ | apply List.Mem.tail) rfl rfl) ?_
    first | refine AJ_y 34 rfl (by kernel_rfl) (by kernel_rfl) rfl rfl (YJ_loadN (vs := [_, _]) rfl tyi_53 (by repeat first | exact .head _ | apply List.Mem.tail) rfl rfl) ?_ | refine AJ_y 34 rfl (by kernel_rfl) (by kernel_rfl) rfl rfl (YJ_loadFactN (vs := [_, _]) rfl tyi_53 (by repeat first | exact .head _ | apply List.Mem.tail) rfl rfl) ?_
    first | refine AJ_y 36 rfl (by kernel_rfl) (by kernel_rfl) rfl rfl (YJ_loadN (vs := [_, _]) rfl tyi_29 (by repeat first | exact .head _ | apply List.Mem.tail) rfl rfl) ?_ | refine AJ_y 36 rfl (by kernel_rfl) (by kernel_rfl) rfl rfl (YJ_loadFactN (vs := [_, _]) rfl tyi_29 (by repeat first | exact .head _ | apply List.Mem.tail) rfl rfl) ?_
    refine AJ_callX 35 rfl (by kernel_rfl) rfl rfl rfl rfl rfl (dist2_c ha he) (AllIn.sub (by first | exact trivial | exact And.intro (by repeat first | exact .head _ | apply List.Mem.tail) trivial | exact And.intro (by repeat first | exact .head _ | apply List.Mem.tail) (And.intro (by repeat first | exact .head _ | apply List.Mem.tail) trivial))) ?_
    rintro ⟨Z10, k10⟩ hcap10
    dsimp only at hcap10
    dsimp only [List.cons_append, List.nil_append]
    refine AJ_call0 37 rfl (by kernel_rfl) rfl rfl rfl rfl rfl (ncmp_c (a := (((tm a1 - tm e1) * (tm a1 - tm e1)) + ((tm a2 - tm e2) * (tm a2 - tm e2)))) (b := (((tm a1 - tm e1) * (tm a1 - tm e1)) + ((tm a2 - tm e2) * (tm a2 - tm e2)))) (Nat.le_trans (dl_add (dl_mul (dl_r128 (Tm.d ha.1 he.1).i.r) (dl_r128 (Tm.d ha.1 he.1).i.r)) (dl_mul (dl_r128 (Tm.d ha.2 he.2).i.r) (dl_r128 (Tm.d ha.2 he.2).i.r))) (by decide)) (Nat.le_trans (dl_add (dl_mul (dl_r128 (Tm.d ha.1 he.1).i.r) (dl_r128 (Tm.d ha.1 he.1).i.r)) (dl_mul (dl_r128 (Tm.d ha.2 he.2).i.r) (dl_r128 (Tm.d ha.2 he.2).i.r))) (by decide)) hcap10 hcap3) (AllIn.sub (And.intro (by repeat first | exact .head _ | apply List.Mem.tail) (And.intro (by repeat first | exact .head _ | apply List.Mem.tail) trivial))) ?_
    refine AJ_y 38 rfl (by kernel_rfl) (by kernel_rfl) rfl rfl (YJ_bin rfl rfl rfl) ?_
    refine AJ_val (v := .bool true) (congrArg Value.bool (decide_eq_true (sgn_self _))) ?_
    refine AJ_y 39 rfl (by kernel_rfl) (by kernel_rfl) rfl rfl (YJ_pickT rfl rfl) ?_
    refine AJ_y 40 rfl (by kernel_rfl) (by kernel_rfl) rfl rfl (YJ_assign rfl) ?_
    refine AJ_done (by kernel_rfl) ?_
    refine QJ_then ?_
    refine CJ_ret ?_
    refine QJ_fin (.inl rfl) (μ' := []) (μr := _) (φ' := []) (res_tmp rfl rfl) (List.Perm.refl _) (fun _ h => nomatch h) ?_
    exact ⟨rfl, rfl, rfl⟩

end Go.Proofs.Ytggbdfnoehienaa
