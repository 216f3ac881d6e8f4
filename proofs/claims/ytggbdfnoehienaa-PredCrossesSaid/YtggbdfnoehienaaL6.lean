/- The walk of the statement PredCrosses. -/
import Derived.Test.YtggbdfnoehienaaL5
set_option linter.unusedSimpArgs false
set_option linter.unusedVariables false
namespace Go.Proofs.Ytggbdfnoehienaa
open Go.RowKit

theorem ent_43 : Enter Try.prog 43 = true := by kernel_rfl
theorem ent_11 : Enter Try.prog 11 = true := by kernel_rfl
theorem arrt_57 : arrt Try.prog 57 = some (4, 53, 2) := by kernel_rfl

set_option maxRecDepth 100000 in
set_option maxHeartbeats 1000000 in
theorem side_c {a1 a2 e1 e2 c1 c2 : Int} (ha : P2 a1 a2) (he : P2 e1 e2) (hc : P2 c1 c2) : Tri Try.prog 43 [ptv a1 a2, ptv e1 e2, ptv c1 c2] [] [] (Ret0 (.int .i64 (sgn (A2 a1 a2 e1 e2 c1 c2)))) := by
  refine Tri_of (N := 13) Try.func43 rfl ent_43 rfl rfl ?_
  intro w0 S0 T0
  show CJ _ _ _ [(0, _), (1, _), (2, _)] _ _
  have hL : ∀ i, i < [(a1, a2), (e1, e2), (c1, c2)].length → P2 ([(a1, a2), (e1, e2), (c1, c2)].getD i (0, 0)).1 ([(a1, a2), (e1, e2), (c1, c2)].getD i (0, 0)).2 := fun i hi => by
    match i, hi with
    | 0, _ => exact ha
    | 1, _ => exact he
    | 2, _ => exact hc
  refine CJ_seq ?_
  refine CJ_reg ?_
  refine LJ_box (cs := #[_, _]) rfl rfl rfl rfl ?_
  intro b1
  refine LJ_box (cs := #[_, _]) rfl rfl rfl rfl ?_
  intro b2
  refine LJ_box (cs := #[_, _]) rfl rfl rfl rfl ?_
  intro b3
  refine LJ_y rfl rfl (YJ_assign rfl) ?_
  refine LJ_nil ?_
  refine QJ_then ?_
  refine CJ_seq ?_
  refine CJ_reg ?_
  first | refine LJ_y rfl rfl (YJ_loadN (vs := [_, _]) rfl tyi_53 (by repeat first | exact .head _ | apply List.Mem.tail) rfl rfl) ?_ | refine LJ_y rfl rfl (YJ_loadFactN (vs := [_, _]) rfl tyi_53 (by repeat first | exact .head _ | apply List.Mem.tail) rfl rfl) ?_
  first | refine LJ_y rfl rfl (YJ_loadN (vs := [_, _]) rfl tyi_53 (by repeat first | exact .head _ | apply List.Mem.tail) rfl rfl) ?_ | refine LJ_y rfl rfl (YJ_loadFactN (vs := [_, _]) rfl tyi_53 (by repeat first | exact .head _ | apply List.Mem.tail) rfl rfl) ?_
  first | refine LJ_y rfl rfl (YJ_loadN (vs := [_, _]) rfl tyi_53 (by repeat first | exact .head _ | apply List.Mem.tail) rfl rfl) ?_ | refine LJ_y rfl rfl (YJ_loadFactN (vs := [_, _]) rfl tyi_53 (by repeat first | exact .head _ | apply List.Mem.tail) rfl rfl) ?_
  refine LJ_buildSliceN (vs := [_, _, _]) (cs := [_, _, _, _, _, _]) rfl rfl elt_87 zer_53 (by decide) (by decide) rfl rfl rfl rfl rfl ?_
  intro b4
  refine LJ_freeze ?_
  refine LJ_addF (r' := sliceR 2 (some ⟨b4, 0, none⟩) 3 (ptCells [(a1, a2), (e1, e2), (c1, c2)])) (.head _) (fun w S h => cellsR_slice (n := 3) rfl w S h) ?_
  refine LJ_callX rfl rfl rfl rfl rfl (larea2_c (l := [(a1, a2), (e1, e2), (c1, c2)]) rfl (by simp) hL) (AllIn.sub (And.intro (by repeat first | exact .head _ | apply List.Mem.tail) trivial)) ?_
  rw [show shoe [(a1, a2), (e1, e2), (c1, c2)] [(a1, a2), (e1, e2), (c1, c2)].length = A2 a1 a2 e1 e2 c1 c2 from shoe3 ..]
  rintro ⟨Z1, k1⟩ hcap1
  dsimp only at hcap1
  dsimp only [List.cons_append, List.nil_append]
  refine LJ_call0 rfl rfl rfl rfl rfl (nsign_c (Nat.le_trans (dl_r128 (A2_r ha he hc)) (by decide)) hcap1) (AllIn.sub (And.intro (by repeat first | exact .head _ | apply List.Mem.tail) trivial)) ?_
  refine LJ_y rfl rfl (YJ_assign rfl) ?_
  refine LJ_nil ?_
  refine QJ_then ?_
  refine CJ_ret ?_
  refine QJ_fin (.inl rfl) (μ' := []) (μr := _) (φ' := []) (res_tmp rfl rfl) (List.Perm.refl _) (fun _ h => nomatch h) ?_
  exact ⟨rfl, rfl, rfl⟩


theorem crosses_rev_c {a1 a2 e1 e2 c1 c2 d1 d2 : Int} (ha : P2 a1 a2) (he : P2 e1 e2) (hc : P2 c1 c2) (hd : P2 d1 d2) : Tri Try.prog 45 [ptv d1 d2, ptv c1 c2, ptv e1 e2, ptv a1 a2] [] [] (Ret0 (.bool (decide (Crs a1 a2 e1 e2 c1 c2 d1 d2)))) := by
  rw [← decide_eq_decide.2 crs_rev]
  exact crosses_c hd hc he ha
theorem meets_turn_c {a1 a2 e1 e2 c1 c2 d1 d2 : Int} (ha : P2 a1 a2) (he : P2 e1 e2) (hc : P2 c1 c2) (hd : P2 d1 d2) : Tri Try.prog 46 [ptv c1 c2, ptv d1 d2, ptv a1 a2, ptv e1 e2] [] [] (Ret0 (.bool (decide (Mts a1 a2 e1 e2 c1 c2 d1 d2)))) := by
  rw [← decide_eq_decide.2 mts_turn]
  exact meets_c hc hd ha he


set_option maxRecDepth 100000 in
set_option maxHeartbeats 8000000 in
theorem pcrosses_c {a1 a2 e1 e2 c1 c2 d1 d2 : Int} : Tri Try.prog 11 [.agg #[.int .i64 a1, .int .i64 a2, .int .i64 e1, .int .i64 e2, .int .i64 c1, .int .i64 c2, .int .i64 d1, .int .i64 d2]] [] [] (Ret0 (.bool true)) := by
  refine Tri_of (N := 109) Try.func11 rfl ent_11 rfl rfl ?_
  intro w0 S0 T0
  show CJ _ _ _ [(0, _)] _ _
  have ha := tm_p a1 a2
  have he := tm_p e1 e2
  have hc := tm_p c1 c2
  have hd := tm_p d1 d2
  refine CJ_seq ?_
  refine CJ_reg ?_
  refine LJ_box (cs := #[_, _, _, _, _, _, _, _]) rfl rfl rfl rfl ?_
  intro b1
  refine LJ_y rfl rfl (YJ_assign rfl) ?_
  refine LJ_nil ?_
  refine QJ_then ?_
  refine CJ_seq ?_
  refine CJ_seq ?_
  refine CJ_reg ?_
  refine LJ_call0 rfl rfl rfl rfl rfl pfit_c (AllIn.sub (by first | exact trivial | exact And.intro (by repeat first | exact .head _ | apply List.Mem.tail) trivial | exact And.intro (by repeat first | exact .head _ | apply List.Mem.tail) (And.intro (by repeat first | exact .head _ | apply List.Mem.tail) trivial))) ?_
  refine LJ_y rfl rfl (YJ_not rfl) ?_
  refine LJ_nil ?_
  refine QJ_then ?_
  refine CJ_condF rfl ?_
  refine CJ_skip ?_
  refine QJ_then ?_
  refine CJ_seq ?_
  refine CJ_regDA mix (by kernel_rfl) (fun _ _ _ _ _ h => h) _ _ (fun _ h => h) (fun _ h => h) [⟨12, 3, 53, #[.int .i64 0, .int .i64 0]⟩, ⟨13, 4, 53, #[.int .i64 0, .int .i64 0]⟩, ⟨14, 5, 53, #[.int .i64 0, .int .i64 0]⟩, ⟨15, 6, 53, #[.int .i64 0, .int .i64 0]⟩] 16 rfl (And.intro ⟨_, _, _, _, rfl, zer_53, rfl⟩ (And.intro ⟨_, _, _, _, rfl, zer_53, rfl⟩ (And.intro ⟨_, _, _, _, rfl, zer_53, rfl⟩ (And.intro ⟨_, _, _, _, rfl, zer_53, rfl⟩ (trivial))))) rfl rfl ?_
  refine AA_y 0 rfl (by kernel_rfl) rfl rfl rfl (YJ_ixArr rfl rfl arrt_57 (by omega) (by omega) rfl) ?_
  first | refine AA_y 1 rfl (by kernel_rfl) rfl rfl rfl (YJ_loadN (vs := [_, _]) rfl tyi_53 (by repeat first | exact .head _ | apply List.Mem.tail) rfl rfl) ?_ | refine AA_y 1 rfl (by kernel_rfl) rfl rfl rfl (YJ_loadFactN (vs := [_, _]) rfl tyi_53 (by repeat first | exact .head _ | apply List.Mem.tail) rfl rfl) ?_
  refine AA_y 3 rfl (by kernel_rfl) rfl rfl rfl (YJ_ixArr rfl rfl arrt_57 (by omega) (by omega) rfl) ?_
  first | refine AA_y 4 rfl (by kernel_rfl) rfl rfl rfl (YJ_loadN (vs := [_, _]) rfl tyi_53 (by repeat first | exact .head _ | apply List.Mem.tail) rfl rfl) ?_ | refine AA_y 4 rfl (by kernel_rfl) rfl rfl rfl (YJ_loadFactN (vs := [_, _]) rfl tyi_53 (by repeat first | exact .head _ | apply List.Mem.tail) rfl rfl) ?_
  refine AA_y 6 rfl (by kernel_rfl) rfl rfl rfl (YJ_ixArr rfl rfl arrt_57 (by omega) (by omega) rfl) ?_
  first | refine AA_y 7 rfl (by kernel_rfl) rfl rfl rfl (YJ_loadN (vs := [_, _]) rfl tyi_53 (by repeat first | exact .head _ | apply List.Mem.tail) rfl rfl) ?_ | refine AA_y 7 rfl (by kernel_rfl) rfl rfl rfl (YJ_loadFactN (vs := [_, _]) rfl tyi_53 (by repeat first | exact .head _ | apply List.Mem.tail) rfl rfl) ?_
  refine AA_y 9 rfl (by kernel_rfl) rfl rfl rfl (YJ_ixArr rfl rfl arrt_57 (by omega) (by omega) rfl) ?_
  first | refine AA_y 10 rfl (by kernel_rfl) rfl rfl rfl (YJ_loadN (vs := [_, _]) rfl tyi_53 (by repeat first | exact .head _ | apply List.Mem.tail) rfl rfl) ?_ | refine AA_y 10 rfl (by kernel_rfl) rfl rfl rfl (YJ_loadFactN (vs := [_, _]) rfl tyi_53 (by repeat first | exact .head _ | apply List.Mem.tail) rfl rfl) ?_
  refine AA_call0 2 rfl (by kernel_rfl) rfl rfl rfl rfl rfl rfl rfl tame_c (AllIn.sub (by first | exact trivial | exact And.intro (by repeat first | exact .head _ | apply List.Mem.tail) trivial | exact And.intro (by repeat first | exact .head _ | apply List.Mem.tail) (And.intro (by repeat first | exact .head _ | apply List.Mem.tail) trivial))) ?_
  refine AA_call0 5 rfl (by kernel_rfl) rfl rfl rfl rfl rfl rfl rfl tame_c (AllIn.sub (by first | exact trivial | exact And.intro (by repeat first | exact .head _ | apply List.Mem.tail) trivial | exact And.intro (by repeat first | exact .head _ | apply List.Mem.tail) (And.intro (by repeat first | exact .head _ | apply List.Mem.tail) trivial))) ?_
  refine AA_call0 8 rfl (by kernel_rfl) rfl rfl rfl rfl rfl rfl rfl tame_c (AllIn.sub (by first | exact trivial | exact And.intro (by repeat first | exact .head _ | apply List.Mem.tail) trivial | exact And.intro (by repeat first | exact .head _ | apply List.Mem.tail) (And.intro (by repeat first | exact .head _ | apply List.Mem.tail) trivial))) ?_
  refine AA_call0 11 rfl (by kernel_rfl) rfl rfl rfl rfl rfl rfl rfl tame_c (AllIn.sub (by first | exact trivial | exact And.intro (by repeat first | exact .head _ | apply List.Mem.tail) trivial | exact And.intro (by repeat first | exact .head _ | apply List.Mem.tail) (And.intro (by repeat first | exact .head _ | apply List.Mem.tail) trivial))) ?_
  refine AA_end (by kernel_rfl) rfl ?_
  intro bs hbs
  obtain ⟨b2, b3, b4, b5, rfl⟩ := len_4 hbs
  clear hbs
  show AJ _ _ _ _ _ _ _ ((3, .pointer (some ⟨b2, 0, none⟩)) :: (4, .pointer (some ⟨b3, 0, none⟩)) :: (5, .pointer (some ⟨b4, 0, none⟩)) :: (6, .pointer (some ⟨b5, 0, none⟩)) :: _) (cellsR b2 _ _ :: cellsR b3 _ _ :: cellsR b4 _ _ :: cellsR b5 _ _ :: _) _
  refine AJ_store (cs' := #[_, _]) (μ' := [_, _, _, _, _]) 16 0 rfl (by kernel_rfl) rfl rfl rfl rfl tyi_53 rfl (Nat.le_of_ble_eq_true rfl) rfl rfl rfl (fun _ => AllIn.sub (And.intro (by repeat first | exact .head _ | apply List.Mem.tail) (trivial))) ?_
  refine AJ_store (cs' := #[_, _]) (μ' := [_, _, _, _, _]) 17 1 rfl (by kernel_rfl) rfl rfl rfl rfl tyi_53 rfl (Nat.le_of_ble_eq_true rfl) rfl rfl rfl (fun _ => AllIn.sub (And.intro (by repeat first | exact .head _ | apply List.Mem.tail) (trivial))) ?_
  refine AJ_store (cs' := #[_, _]) (μ' := [_, _, _, _, _]) 18 2 rfl (by kernel_rfl) rfl rfl rfl rfl tyi_53 rfl (Nat.le_of_ble_eq_true rfl) rfl rfl rfl (fun _ => AllIn.sub (And.intro (by repeat first | exact .head _ | apply List.Mem.tail) (trivial))) ?_
  refine AJ_store (cs' := #[_, _]) (μ' := [_, _, _, _, _]) 19 3 rfl (by kernel_rfl) rfl rfl rfl rfl tyi_53 rfl (Nat.le_of_ble_eq_true rfl) rfl rfl rfl (fun _ => AllIn.sub (And.intro (by repeat first | exact .head _ | apply List.Mem.tail) (trivial))) ?_
  refine AJ_done (by kernel_rfl) ?_
  refine QJ_then ?_
  refine CJ_seq ?_
  refine CJ_reg ?_
  refine LJ_y rfl rfl (YJ_assign rfl) ?_
  refine LJ_nil ?_
  refine QJ_then ?_
  refine CJ_seq ?_
  refine CJ_regD mix (by kernel_rfl) (fun _ _ _ _ _ h => h) _ _ (fun _ h => h) (fun _ h => h) ?_
  refine AJ_y 0 rfl (by kernel_rfl) (by kernel_rfl) rfl rfl (YJ_move rfl) ?_
  first | refine AJ_y 1 rfl (by kernel_rfl) (by kernel_rfl) rfl rfl (YJ_loadN (vs := [_, _]) rfl tyi_53 (by repeat first | exact .head _ | apply List.Mem.tail) rfl rfl) ?_ | refine AJ_y 1 rfl (by kernel_rfl) (by kernel_rfl) rfl rfl (YJ_loadFactN (vs := [_, _]) rfl tyi_53 (by repeat first | exact .head _ | apply List.Mem.tail) rfl rfl) ?_
  first | refine AJ_y 2 rfl (by kernel_rfl) (by kernel_rfl) rfl rfl (YJ_loadN (vs := [_, _]) rfl tyi_53 (by repeat first | exact .head _ | apply List.Mem.tail) rfl rfl) ?_ | refine AJ_y 2 rfl (by kernel_rfl) (by kernel_rfl) rfl rfl (YJ_loadFactN (vs := [_, _]) rfl tyi_53 (by repeat first | exact .head _ | apply List.Mem.tail) rfl rfl) ?_
  first | refine AJ_y 3 rfl (by kernel_rfl) (by kernel_rfl) rfl rfl (YJ_loadN (vs := [_, _]) rfl tyi_53 (by repeat first | exact .head _ | apply List.Mem.tail) rfl rfl) ?_ | refine AJ_y 3 rfl (by kernel_rfl) (by kernel_rfl) rfl rfl (YJ_loadFactN (vs := [_, _]) rfl tyi_53 (by repeat first | exact .head _ | apply List.Mem.tail) rfl rfl) ?_
  refine AJ_y 5 rfl (by kernel_rfl) (by kernel_rfl) rfl rfl (YJ_move rfl) ?_
  first | refine AJ_y 6 rfl (by kernel_rfl) (by kernel_rfl) rfl rfl (YJ_loadN (vs := [_, _]) rfl tyi_53 (by repeat first | exact .head _ | apply List.Mem.tail) rfl rfl) ?_ | refine AJ_y 6 rfl (by kernel_rfl) (by kernel_rfl) rfl rfl (YJ_loadFactN (vs := [_, _]) rfl tyi_53 (by repeat first | exact .head _ | apply List.Mem.tail) rfl rfl) ?_
  first | refine AJ_y 7 rfl (by kernel_rfl) (by kernel_rfl) rfl rfl (YJ_loadN (vs := [_, _]) rfl tyi_53 (by repeat first | exact .head _ | apply List.Mem.tail) rfl rfl) ?_ | refine AJ_y 7 rfl (by kernel_rfl) (by kernel_rfl) rfl rfl (YJ_loadFactN (vs := [_, _]) rfl tyi_53 (by repeat first | exact .head _ | apply List.Mem.tail) rfl rfl) ?_
  first | refine AJ_y 8 rfl (by kernel_rfl) (by kernel_rfl) rfl rfl (YJ_loadN (vs := [_, _]) rfl tyi_53 (by repeat first | exact .head _ | apply List.Mem.tail) rfl rfl) ?_ | refine AJ_y 8 rfl (by kernel_rfl) (by kernel_rfl) rfl rfl (YJ_loadFactN (vs := [_, _]) rfl tyi_53 (by repeat first | exact .head _ | apply List.Mem.tail) rfl rfl) ?_
  refine AJ_call0 4 rfl (by kernel_rfl) rfl rfl rfl rfl rfl (side_c ha he hc) (AllIn.sub (by first | exact trivial | exact And.intro (by repeat first | exact .head _ | apply List.Mem.tail) trivial | exact And.intro (by repeat first | exact .head _ | apply List.Mem.tail) (And.intro (by repeat first | exact .head _ | apply List.Mem.tail) trivial))) ?_
  refine AJ_call0 9 rfl (by kernel_rfl) rfl rfl rfl rfl rfl (side_c ha he hd) (AllIn.sub (by first | exact trivial | exact And.intro (by repeat first | exact .head _ | apply List.Mem.tail) trivial | exact And.intro (by repeat first | exact .head _ | apply List.Mem.tail) (And.intro (by repeat first | exact .head _ | apply List.Mem.tail) trivial))) ?_
  refine AJ_y 10 rfl (by kernel_rfl) (by kernel_rfl) rfl rfl (YJ_bin rfl rfl (iop_mul (sgn_mul_b _ _))) ?_
  refine AJ_y 11 rfl (by kernel_rfl) (by kernel_rfl) rfl rfl (YJ_bin rfl rfl rfl) ?_
  refine AJ_y 12 rfl (by kernel_rfl) (by kernel_rfl) rfl rfl (YJ_move rfl) ?_
  refine AJ_boolC (fun h36 => ?_) (fun h36 => ?_)
  · try simp only [decide_eq_true_eq, decide_eq_false_iff_not, Bool.not_eq_true', Bool.not_eq_false', Bool.and_eq_true, Bool.and_eq_false_iff, beq_iff_eq, bne_iff_ne, beq_eq_false_iff_ne, bne_eq_false_iff_eq, ne_eq, decide_eq_decide] at h36
    refine AJ_y 13 rfl (by kernel_rfl) (by kernel_rfl) rfl rfl (YJ_move rfl) ?_
    first | refine AJ_y 14 rfl (by kernel_rfl) (by kernel_rfl) rfl rfl (YJ_loadN (vs := [_, _]) rfl tyi_53 (by repeat first | exact .head _ | apply List.Mem.tail) rfl rfl) ?_ | refine AJ_y 14 rfl (by kernel_rfl) (by kernel_rfl) rfl rfl (YJ_loadFactN (vs := [_, _]) rfl tyi_53 (by repeat first | exact .head _ | apply List.Mem.tail) rfl rfl) ?_
    first | refine AJ_y 15 rfl (by kernel_rfl) (by kernel_rfl) rfl rfl (YJ_loadN (vs := [_, _]) rfl tyi_53 (by repeat first | exact .head _ | apply List.Mem.tail) rfl rfl) ?_ | refine AJ_y 15 rfl (by kernel_rfl) (by kernel_rfl) rfl rfl (YJ_loadFactN (vs := [_, _]) rfl tyi_53 (by repeat first | exact .head _ | apply List.Mem.tail) rfl rfl) ?_
    first | refine AJ_y 16 rfl (by kernel_rfl) (by kernel_rfl) rfl rfl (YJ_loadN (vs := [_, _]) rfl tyi_53 (by repeat first | exact .head _ | apply List.Mem.tail) rfl rfl) ?_ | refine AJ_y 16 rfl (by kernel_rfl) (by kernel_rfl) rfl rfl (YJ_loadFactN (vs := [_, _]) rfl tyi_53 (by repeat first | exact .head _ | apply List.Mem.tail) rfl rfl) ?_
    refine AJ_y 18 rfl (by kernel_rfl) (by kernel_rfl) rfl rfl (YJ_move rfl) ?_
    first | refine AJ_y 19 rfl (by kernel_rfl) (by kernel_rfl) rfl rfl (YJ_loadN (vs := [_, _]) rfl tyi_53 (by repeat first | exact .head _ | apply List.Mem.tail) rfl rfl) ?_ | refine AJ_y 19 rfl (by kernel_rfl) (by kernel_rfl) rfl rfl (YJ_loadFactN (vs := [_, _]) rfl tyi_53 (by repeat first | exact .head _ | apply List.Mem.tail) rfl rfl) ?_
    first | refine AJ_y 20 rfl (by kernel_rfl) (by kernel_rfl) rfl rfl (YJ_loadN (vs := [_, _]) rfl tyi_53 (by repeat first | exact .head _ | apply List.Mem.tail) rfl rfl) ?_ | refine AJ_y 20 rfl (by kernel_rfl) (by kernel_rfl) rfl rfl (YJ_loadFactN (vs := [_, _]) rfl tyi_53 (by repeat first | exact .head _ | apply List.Mem.tail) rfl rfl) ?_
    first | refine AJ_y 21 rfl (by kernel_rfl) (by kernel_rfl) rfl rfl (YJ_loadN (vs := [_, _]) rfl tyi_53 (by repeat first | exact .head _ | apply List.Mem.tail) rfl rfl) ?_ | refine AJ_y 21 rfl (by kernel_rfl) (by kernel_rfl) rfl rfl (YJ_loadFactN (vs := [_, _]) rfl tyi_53 (by repeat first | exact .head _ | apply List.Mem.tail) rfl rfl) ?_
    refine AJ_call0 17 rfl (by kernel_rfl) rfl rfl rfl rfl rfl (side_c hc hd ha) (AllIn.sub (by first | exact trivial | exact And.intro (by repeat first | exact .head _ | apply List.Mem.tail) trivial | exact And.intro (by repeat first | exact .head _ | apply List.Mem.tail) (And.intro (by repeat first | exact .head _ | apply List.Mem.tail) trivial))) ?_
    refine AJ_call0 22 rfl (by kernel_rfl) rfl rfl rfl rfl rfl (side_c hc hd he) (AllIn.sub (by first | exact trivial | exact And.intro (by repeat first | exact .head _ | apply List.Mem.tail) trivial | exact And.intro (by repeat first | exact .head _ | apply List.Mem.tail) (And.intro (by repeat first | exact .head _ | apply List.Mem.tail) trivial))) ?_
    refine AJ_y 23 rfl (by kernel_rfl) (by kernel_rfl) rfl rfl (YJ_bin rfl rfl (iop_mul (sgn_mul_b _ _))) ?_
    refine AJ_y 24 rfl (by kernel_rfl) (by kernel_rfl) rfl rfl (YJ_bin rfl rfl rfl) ?_
    refine AJ_y 25 rfl (by kernel_rfl) (by kernel_rfl) rfl rfl (YJ_pickT rfl rfl) ?_
    have hcr : (Crs (tm a1) (tm a2) (tm e1) (tm e2) (tm c1) (tm c2) (tm d1) (tm d2)) ↔ sgn (A2 (tm c1) (tm c2) (tm d1) (tm d2) (tm a1) (tm a2)) * sgn (A2 (tm c1) (tm c2) (tm d1) (tm d2) (tm e1) (tm e2)) < 0 := ⟨fun h => h.2, fun h => ⟨h36, h⟩⟩
    refine AJ_y 26 rfl (by kernel_rfl) (by kernel_rfl) rfl rfl (YJ_assign rfl) ?_
    refine AJ_done (by kernel_rfl) ?_
    refine QJ_then ?_
    refine CJ_seq ?_
    refine CJ_reg ?_
    refine LJ_y rfl rfl (YJ_move rfl) ?_
    refine LJ_y rfl rfl (YJ_move rfl) ?_
    refine LJ_boolC (fun h51 => ?_) (fun h51 => ?_)
    · try simp only [decide_eq_true_eq, decide_eq_false_iff_not, Bool.not_eq_true', Bool.not_eq_false', Bool.and_eq_true, Bool.and_eq_false_iff, beq_iff_eq, bne_iff_ne, beq_eq_false_iff_ne, bne_eq_false_iff_eq, ne_eq, decide_eq_decide] at h51
      have hn : Crs (tm a1) (tm a2) (tm e1) (tm e2) (tm c1) (tm c2) (tm d1) (tm d2) := hcr.2 h51
      refine LJ_skip rfl rfl ?_
      refine LJ_skip rfl rfl ?_
      refine LJ_skip rfl rfl ?_
      refine LJ_skip rfl rfl ?_
      refine LJ_y rfl rfl (YJ_pickT rfl rfl) ?_
      refine LJ_y rfl rfl (YJ_move rfl) ?_
      refine LJ_skip rfl rfl ?_
      refine LJ_skip rfl rfl ?_
      refine LJ_skip rfl rfl ?_
      refine LJ_skip rfl rfl ?_
      refine LJ_y rfl rfl (YJ_pickT rfl rfl) ?_
      refine LJ_y rfl rfl (YJ_move rfl) ?_
      refine LJ_skip rfl rfl ?_
      refine LJ_skip rfl rfl ?_
      refine LJ_skip rfl rfl ?_
      refine LJ_skip rfl rfl ?_
      refine LJ_y rfl rfl (YJ_pickT rfl rfl) ?_
      refine LJ_y rfl rfl (YJ_move rfl) ?_
      refine LJ_skip rfl rfl ?_
      refine LJ_skip rfl rfl ?_
      refine LJ_skip rfl rfl ?_
      refine LJ_skip rfl rfl ?_
      refine LJ_y rfl rfl (YJ_pickT rfl rfl) ?_
      refine LJ_y rfl rfl (YJ_assign rfl) ?_
      refine LJ_nil ?_
      refine QJ_then ?_
      refine CJ_seq ?_
      refine CJ_reg ?_
      first | refine LJ_y rfl rfl (YJ_loadN (vs := [_, _]) rfl tyi_53 (by repeat first | exact .head _ | apply List.Mem.tail) rfl rfl) ?_ | refine LJ_y rfl rfl (YJ_loadFactN (vs := [_, _]) rfl tyi_53 (by repeat first | exact .head _ | apply List.Mem.tail) rfl rfl) ?_
      first | refine LJ_y rfl rfl (YJ_loadN (vs := [_, _]) rfl tyi_53 (by repeat first | exact .head _ | apply List.Mem.tail) rfl rfl) ?_ | refine LJ_y rfl rfl (YJ_loadFactN (vs := [_, _]) rfl tyi_53 (by repeat first | exact .head _ | apply List.Mem.tail) rfl rfl) ?_
      first | refine LJ_y rfl rfl (YJ_loadN (vs := [_, _]) rfl tyi_53 (by repeat first | exact .head _ | apply List.Mem.tail) rfl rfl) ?_ | refine LJ_y rfl rfl (YJ_loadFactN (vs := [_, _]) rfl tyi_53 (by repeat first | exact .head _ | apply List.Mem.tail) rfl rfl) ?_
      first | refine LJ_y rfl rfl (YJ_loadN (vs := [_, _]) rfl tyi_53 (by repeat first | exact .head _ | apply List.Mem.tail) rfl rfl) ?_ | refine LJ_y rfl rfl (YJ_loadFactN (vs := [_, _]) rfl tyi_53 (by repeat first | exact .head _ | apply List.Mem.tail) rfl rfl) ?_
      refine LJ_call0 rfl rfl rfl rfl rfl (crosses_c ha he hc hd) (AllIn.sub (by first | exact trivial | exact And.intro (by repeat first | exact .head _ | apply List.Mem.tail) trivial | exact And.intro (by repeat first | exact .head _ | apply List.Mem.tail) (And.intro (by repeat first | exact .head _ | apply List.Mem.tail) trivial))) ?_
      refine LJ_y rfl rfl (YJ_move rfl) ?_
      refine LJ_y rfl rfl (YJ_eqb rfl rfl ubool_4) ?_
      refine LJ_y rfl rfl (YJ_move rfl) ?_
      refine LJ_bool (c := true) (by first | (rw [beq_iff_eq, decide_eq_decide]; exact hcr) | (rw [beq_iff_eq, decide_eq_false_iff_not]; exact hn)) ?_
      first | refine LJ_y rfl rfl (YJ_loadN (vs := [_, _]) rfl tyi_53 (by repeat first | exact .head _ | apply List.Mem.tail) rfl rfl) ?_ | refine LJ_y rfl rfl (YJ_loadFactN (vs := [_, _]) rfl tyi_53 (by repeat first | exact .head _ | apply List.Mem.tail) rfl rfl) ?_
      first | refine LJ_y rfl rfl (YJ_loadN (vs := [_, _]) rfl tyi_53 (by repeat first | exact .head _ | apply List.Mem.tail) rfl rfl) ?_ | refine LJ_y rfl rfl (YJ_loadFactN (vs := [_, _]) rfl tyi_53 (by repeat first | exact .head _ | apply List.Mem.tail) rfl rfl) ?_
      first | refine LJ_y rfl rfl (YJ_loadN (vs := [_, _]) rfl tyi_53 (by repeat first | exact .head _ | apply List.Mem.tail) rfl rfl) ?_ | refine LJ_y rfl rfl (YJ_loadFactN (vs := [_, _]) rfl tyi_53 (by repeat first | exact .head _ | apply List.Mem.tail) rfl rfl) ?_
      first | refine LJ_y rfl rfl (YJ_loadN (vs := [_, _]) rfl tyi_53 (by repeat first | exact .head _ | apply List.Mem.tail) rfl rfl) ?_ | refine LJ_y rfl rfl (YJ_loadFactN (vs := [_, _]) rfl tyi_53 (by repeat first | exact .head _ | apply List.Mem.tail) rfl rfl) ?_
      refine LJ_call0 rfl rfl rfl rfl rfl (crosses_rev_c ha he hc hd) (AllIn.sub (by first | exact trivial | exact And.intro (by repeat first | exact .head _ | apply List.Mem.tail) trivial | exact And.intro (by repeat first | exact .head _ | apply List.Mem.tail) (And.intro (by repeat first | exact .head _ | apply List.Mem.tail) trivial))) ?_
      refine LJ_y rfl rfl (YJ_move rfl) ?_
      refine LJ_y rfl rfl (YJ_eqb rfl rfl ubool_4) ?_
      refine LJ_y rfl rfl (YJ_pickT rfl rfl) ?_
      refine LJ_y rfl rfl (YJ_move rfl) ?_
      refine LJ_bool (c := true) (by first | (rw [beq_iff_eq, decide_eq_decide]; exact hcr) | (rw [beq_iff_eq, decide_eq_false_iff_not]; exact hn)) ?_
      first | refine LJ_y rfl rfl (YJ_loadN (vs := [_, _]) rfl tyi_53 (by repeat first | exact .head _ | apply List.Mem.tail) rfl rfl) ?_ | refine LJ_y rfl rfl (YJ_loadFactN (vs := [_, _]) rfl tyi_53 (by repeat first | exact .head _ | apply List.Mem.tail) rfl rfl) ?_
      first | refine LJ_y rfl rfl (YJ_loadN (vs := [_, _]) rfl tyi_53 (by repeat first | exact .head _ | apply List.Mem.tail) rfl rfl) ?_ | refine LJ_y rfl rfl (YJ_loadFactN (vs := [_, _]) rfl tyi_53 (by repeat first | exact .head _ | apply List.Mem.tail) rfl rfl) ?_
      first | refine LJ_y rfl rfl (YJ_loadN (vs := [_, _]) rfl tyi_53 (by repeat first | exact .head _ | apply List.Mem.tail) rfl rfl) ?_ | refine LJ_y rfl rfl (YJ_loadFactN (vs := [_, _]) rfl tyi_53 (by repeat first | exact .head _ | apply List.Mem.tail) rfl rfl) ?_
      first | refine LJ_y rfl rfl (YJ_loadN (vs := [_, _]) rfl tyi_53 (by repeat first | exact .head _ | apply List.Mem.tail) rfl rfl) ?_ | refine LJ_y rfl rfl (YJ_loadFactN (vs := [_, _]) rfl tyi_53 (by repeat first | exact .head _ | apply List.Mem.tail) rfl rfl) ?_
      refine LJ_call0 rfl rfl rfl rfl rfl (meets_c ha he hc hd) (AllIn.sub (by first | exact trivial | exact And.intro (by repeat first | exact .head _ | apply List.Mem.tail) trivial | exact And.intro (by repeat first | exact .head _ | apply List.Mem.tail) (And.intro (by repeat first | exact .head _ | apply List.Mem.tail) trivial))) ?_
      refine LJ_y rfl rfl (YJ_move rfl) ?_
      refine LJ_y rfl rfl (YJ_eqb rfl rfl ubool_4) ?_
      refine LJ_y rfl rfl (YJ_pickT rfl rfl) ?_
      refine LJ_y rfl rfl (YJ_move rfl) ?_
      refine LJ_bool (c := true) (by first | (rw [beq_iff_eq, decide_eq_true_iff]; simp only [Mts, *, true_or, or_true]) | (rw [beq_iff_eq, decide_eq_decide]; simp only [Mts, *, false_or])) ?_
      first | refine LJ_y rfl rfl (YJ_loadN (vs := [_, _]) rfl tyi_53 (by repeat first | exact .head _ | apply List.Mem.tail) rfl rfl) ?_ | refine LJ_y rfl rfl (YJ_loadFactN (vs := [_, _]) rfl tyi_53 (by repeat first | exact .head _ | apply List.Mem.tail) rfl rfl) ?_
      first | refine LJ_y rfl rfl (YJ_loadN (vs := [_, _]) rfl tyi_53 (by repeat first | exact .head _ | apply List.Mem.tail) rfl rfl) ?_ | refine LJ_y rfl rfl (YJ_loadFactN (vs := [_, _]) rfl tyi_53 (by repeat first | exact .head _ | apply List.Mem.tail) rfl rfl) ?_
      first | refine LJ_y rfl rfl (YJ_loadN (vs := [_, _]) rfl tyi_53 (by repeat first | exact .head _ | apply List.Mem.tail) rfl rfl) ?_ | refine LJ_y rfl rfl (YJ_loadFactN (vs := [_, _]) rfl tyi_53 (by repeat first | exact .head _ | apply List.Mem.tail) rfl rfl) ?_
      first | refine LJ_y rfl rfl (YJ_loadN (vs := [_, _]) rfl tyi_53 (by repeat first | exact .head _ | apply List.Mem.tail) rfl rfl) ?_ | refine LJ_y rfl rfl (YJ_loadFactN (vs := [_, _]) rfl tyi_53 (by repeat first | exact .head _ | apply List.Mem.tail) rfl rfl) ?_
      refine LJ_call0 rfl rfl rfl rfl rfl (meets_turn_c ha he hc hd) (AllIn.sub (by first | exact trivial | exact And.intro (by repeat first | exact .head _ | apply List.Mem.tail) trivial | exact And.intro (by repeat first | exact .head _ | apply List.Mem.tail) (And.intro (by repeat first | exact .head _ | apply List.Mem.tail) trivial))) ?_
      refine LJ_y rfl rfl (YJ_move rfl) ?_
      refine LJ_y rfl rfl (YJ_eqb rfl rfl ubool_4) ?_
      refine LJ_val (v := .bool true) (congrArg Value.bool (by first | (rw [beq_iff_eq, decide_eq_true_iff]; simp only [Mts, *, true_or, or_true]) | (rw [beq_iff_eq, decide_eq_decide]; simp only [Mts, *, false_or]))) ?_
      refine LJ_y rfl rfl (YJ_pickT rfl rfl) ?_
      refine LJ_y rfl rfl (YJ_assign rfl) ?_
      refine LJ_nil ?_
      refine QJ_then ?_
      refine CJ_ret ?_
      refine QJ_fin (.inl rfl) (μ' := []) (μr := _) (φ' := []) (res_tmp rfl rfl) (List.Perm.refl _) (fun _ h => nomatch h) ?_
      exact ⟨rfl, rfl, rfl⟩
    · try simp only [decide_eq_true_eq, decide_eq_false_iff_not, Bool.not_eq_true', Bool.not_eq_false', Bool.and_eq_true, Bool.and_eq_false_iff, beq_iff_eq, bne_iff_ne, beq_eq_false_iff_ne, bne_eq_false_iff_eq, ne_eq, decide_eq_decide] at h51
      have hn : ¬ (Crs (tm a1) (tm a2) (tm e1) (tm e2) (tm c1) (tm c2) (tm d1) (tm d2)) := fun h => h51 (hcr.1 h)
      first | refine LJ_y rfl rfl (YJ_loadN (vs := [_, _]) rfl tyi_53 (by repeat first | exact .head _ | apply List.Mem.tail) rfl rfl) ?_ | refine LJ_y rfl rfl (YJ_loadFactN (vs := [_, _]) rfl tyi_53 (by repeat first | exact .head _ | apply List.Mem.tail) rfl rfl) ?_
      first | refine LJ_y rfl rfl (YJ_loadN (vs := [_, _]) rfl tyi_53 (by repeat first | exact .head _ | apply List.Mem.tail) rfl rfl) ?_ | refine LJ_y rfl rfl (YJ_loadFactN (vs := [_, _]) rfl tyi_53 (by repeat first | exact .head _ | apply List.Mem.tail) rfl rfl) ?_
      first | refine LJ_y rfl rfl (YJ_loadN (vs := [_, _]) rfl tyi_53 (by repeat first | exact .head _ | apply List.Mem.tail) rfl rfl) ?_ | refine LJ_y rfl rfl (YJ_loadFactN (vs := [_, _]) rfl tyi_53 (by repeat first | exact .head _ | apply List.Mem.tail) rfl rfl) ?_
      refine LJ_call0 rfl rfl rfl rfl rfl (on_c ha hc hd) (AllIn.sub (by first | exact trivial | exact And.intro (by repeat first | exact .head _ | apply List.Mem.tail) trivial | exact And.intro (by repeat first | exact .head _ | apply List.Mem.tail) (And.intro (by repeat first | exact .head _ | apply List.Mem.tail) trivial))) ?_
      refine LJ_y rfl rfl (YJ_pickF rfl rfl) ?_
      refine LJ_y rfl rfl (YJ_move rfl) ?_
      refine LJ_boolC (fun h57 => ?_) (fun h57 => ?_)
      · try simp only [decide_eq_true_eq, decide_eq_false_iff_not, Bool.not_eq_true', Bool.not_eq_false', Bool.and_eq_true, Bool.and_eq_false_iff, beq_iff_eq, bne_iff_ne, beq_eq_false_iff_ne, bne_eq_false_iff_eq, ne_eq, decide_eq_decide] at h57
        refine LJ_skip rfl rfl ?_
        refine LJ_skip rfl rfl ?_
        refine LJ_skip rfl rfl ?_
        refine LJ_skip rfl rfl ?_
        refine LJ_y rfl rfl (YJ_pickT rfl rfl) ?_
        refine LJ_y rfl rfl (YJ_move rfl) ?_
        refine LJ_skip rfl rfl ?_
        refine LJ_skip rfl rfl ?_
        refine LJ_skip rfl rfl ?_
        refine LJ_skip rfl rfl ?_
        refine LJ_y rfl rfl (YJ_pickT rfl rfl) ?_
        refine LJ_y rfl rfl (YJ_move rfl) ?_
        refine LJ_skip rfl rfl ?_
        refine LJ_skip rfl rfl ?_
        refine LJ_skip rfl rfl ?_
        refine LJ_skip rfl rfl ?_
        refine LJ_y rfl rfl (YJ_pickT rfl rfl) ?_
        refine LJ_y rfl rfl (YJ_assign rfl) ?_
        refine LJ_nil ?_
        refine QJ_then ?_
        refine CJ_seq ?_
        refine CJ_reg ?_
        first | refine LJ_y rfl rfl (YJ_loadN (vs := [_, _]) rfl tyi_53 (by repeat first | exact .head _ | apply List.Mem.tail) rfl rfl) ?_ | refine LJ_y rfl rfl (YJ_loadFactN (vs := [_, _]) rfl tyi_53 (by repeat first | exact .head _ | apply List.Mem.tail) rfl rfl) ?_
        first | refine LJ_y rfl rfl (YJ_loadN (vs := [_, _]) rfl tyi_53 (by repeat first | exact .head _ | apply List.Mem.tail) rfl rfl) ?_ | refine LJ_y rfl rfl (YJ_loadFactN (vs := [_, _]) rfl tyi_53 (by repeat first | exact .head _ | apply List.Mem.tail) rfl rfl) ?_
        first | refine LJ_y rfl rfl (YJ_loadN (vs := [_, _]) rfl tyi_53 (by repeat first | exact .head _ | apply List.Mem.tail) rfl rfl) ?_ | refine LJ_y rfl rfl (YJ_loadFactN (vs := [_, _]) rfl tyi_53 (by repeat first | exact .head _ | apply List.Mem.tail) rfl rfl) ?_
        first | refine LJ_y rfl rfl (YJ_loadN (vs := [_, _]) rfl tyi_53 (by repeat first | exact .head _ | apply List.Mem.tail) rfl rfl) ?_ | refine LJ_y rfl rfl (YJ_loadFactN (vs := [_, _]) rfl tyi_53 (by repeat first | exact .head _ | apply List.Mem.tail) rfl rfl) ?_
        refine LJ_call0 rfl rfl rfl rfl rfl (crosses_c ha he hc hd) (AllIn.sub (by first | exact trivial | exact And.intro (by repeat first | exact .head _ | apply List.Mem.tail) trivial | exact And.intro (by repeat first | exact .head _ | apply List.Mem.tail) (And.intro (by repeat first | exact .head _ | apply List.Mem.tail) trivial))) ?_
        refine LJ_y rfl rfl (YJ_move rfl) ?_
        refine LJ_y rfl rfl (YJ_eqb rfl rfl ubool_4) ?_
        refine LJ_y rfl rfl (YJ_move rfl) ?_
        refine LJ_bool (c := true) (by first | (rw [beq_iff_eq, decide_eq_decide]; exact hcr) | (rw [beq_iff_eq, decide_eq_false_iff_not]; exact hn)) ?_
        first | refine LJ_y rfl rfl (YJ_loadN (vs := [_, _]) rfl tyi_53 (by repeat first | exact .head _ | apply List.Mem.tail) rfl rfl) ?_ | refine LJ_y rfl rfl (YJ_loadFactN (vs := [_, _]) rfl tyi_53 (by repeat first | exact .head _ | apply List.Mem.tail) rfl rfl) ?_
        first | refine LJ_y rfl rfl (YJ_loadN (vs := [_, _]) rfl tyi_53 (by repeat first | exact .head _ | apply List.Mem.tail) rfl rfl) ?_ | refine LJ_y rfl rfl (YJ_loadFactN (vs := [_, _]) rfl tyi_53 (by repeat first | exact .head _ | apply List.Mem.tail) rfl rfl) ?_
        first | refine LJ_y rfl rfl (YJ_loadN (vs := [_, _]) rfl tyi_53 (by repeat first | exact .head _ | apply List.Mem.tail) rfl rfl) ?_ | refine LJ_y rfl rfl (YJ_loadFactN (vs := [_, _]) rfl tyi_53 (by repeat first | exact .head _ | apply List.Mem.tail) rfl rfl) ?_
        first | refine LJ_y rfl rfl (YJ_loadN (vs := [_, _]) rfl tyi_53 (by repeat first | exact .head _ | apply List.Mem.tail) rfl rfl) ?_ | refine LJ_y rfl rfl (YJ_loadFactN (vs := [_, _]) rfl tyi_53 (by repeat first | exact .head _ | apply List.Mem.tail) rfl rfl) ?_
        refine LJ_call0 rfl rfl rfl rfl rfl (crosses_rev_c ha he hc hd) (AllIn.sub (by first | exact trivial | exact And.intro (by repeat first | exact .head _ | apply List.Mem.tail) trivial | exact And.intro (by repeat first | exact .head _ | apply List.Mem.tail) (And.intro (by repeat first | exact .head _ | apply List.Mem.tail) trivial))) ?_
        refine LJ_y rfl rfl (YJ_move rfl) ?_
        refine LJ_y rfl rfl (YJ_eqb rfl rfl ubool_4) ?_
        refine LJ_y rfl rfl (YJ_pickT rfl rfl) ?_
        refine LJ_y rfl rfl (YJ_move rfl) ?_
        refine LJ_bool (c := true) (by first | (rw [beq_iff_eq, decide_eq_decide]; exact hcr) | (rw [beq_iff_eq, decide_eq_false_iff_not]; exact hn)) ?_
        first | refine LJ_y rfl rfl (YJ_loadN (vs := [_, _]) rfl tyi_53 (by repeat first | exact .head _ | apply List.Mem.tail) rfl rfl) ?_ | refine LJ_y rfl rfl (YJ_loadFactN (vs := [_, _]) rfl tyi_53 (by repeat first | exact .head _ | apply List.Mem.tail) rfl rfl) ?_
        first | refine LJ_y rfl rfl (YJ_loadN (vs := [_, _]) rfl tyi_53 (by repeat first | exact .head _ | apply List.Mem.tail) rfl rfl) ?_ | refine LJ_y rfl rfl (YJ_loadFactN (vs := [_, _]) rfl tyi_53 (by repeat first | exact .head _ | apply List.Mem.tail) rfl rfl) ?_
        first | refine LJ_y rfl rfl (YJ_loadN (vs := [_, _]) rfl tyi_53 (by repeat first | exact .head _ | apply List.Mem.tail) rfl rfl) ?_ | refine LJ_y rfl rfl (YJ_loadFactN (vs := [_, _]) rfl tyi_53 (by repeat first | exact .head _ | apply List.Mem.tail) rfl rfl) ?_
        first | refine LJ_y rfl rfl (YJ_loadN (vs := [_, _]) rfl tyi_53 (by repeat first | exact .head _ | apply List.Mem.tail) rfl rfl) ?_ | refine LJ_y rfl rfl (YJ_loadFactN (vs := [_, _]) rfl tyi_53 (by repeat first | exact .head _ | apply List.Mem.tail) rfl rfl) ?_
        refine LJ_call0 rfl rfl rfl rfl rfl (meets_c ha he hc hd) (AllIn.sub (by first | exact trivial | exact And.intro (by repeat first | exact .head _ | apply List.Mem.tail) trivial | exact And.intro (by repeat first | exact .head _ | apply List.Mem.tail) (And.intro (by repeat first | exact .head _ | apply List.Mem.tail) trivial))) ?_
        refine LJ_y rfl rfl (YJ_move rfl) ?_
        refine LJ_y rfl rfl (YJ_eqb rfl rfl ubool_4) ?_
        refine LJ_y rfl rfl (YJ_pickT rfl rfl) ?_
        refine LJ_y rfl rfl (YJ_move rfl) ?_
        refine LJ_bool (c := true) (by first | (rw [beq_iff_eq, decide_eq_true_iff]; simp only [Mts, *, true_or, or_true]) | (rw [beq_iff_eq, decide_eq_decide]; simp only [Mts, *, false_or])) ?_
        first | refine LJ_y rfl rfl (YJ_loadN (vs := [_, _]) rfl tyi_53 (by repeat first | exact .head _ | apply List.Mem.tail) rfl rfl) ?_ | refine LJ_y rfl rfl (YJ_loadFactN (vs := [_, _]) rfl tyi_53 (by repeat first | exact .head _ | apply List.Mem.tail) rfl rfl) ?_
        first | refine LJ_y rfl rfl (YJ_loadN (vs := [_, _]) rfl tyi_53 (by repeat first | exact .head _ | apply List.Mem.tail) rfl rfl) ?_ | refine LJ_y rfl rfl (YJ_loadFactN (vs := [_, _]) rfl tyi_53 (by repeat first | exact .head _ | apply List.Mem.tail) rfl rfl) ?_
        first | refine LJ_y rfl rfl (YJ_loadN (vs := [_, _]) rfl tyi_53 (by repeat first | exact .head _ | apply List.Mem.tail) rfl rfl) ?_ | refine LJ_y rfl rfl (YJ_loadFactN (vs := [_, _]) rfl tyi_53 (by repeat first | exact .head _ | apply List.Mem.tail) rfl rfl) ?_
        first | refine LJ_y rfl rfl (YJ_loadN (vs := [_, _]) rfl tyi_53 (by repeat first | exact .head _ | apply List.Mem.tail) rfl rfl) ?_ | refine LJ_y rfl rfl (YJ_loadFactN (vs := [_, _]) rfl tyi_53 (by repeat first | exact .head _ | apply List.Mem.tail) rfl rfl) ?_
        refine LJ_call0 rfl rfl rfl rfl rfl (meets_turn_c ha he hc hd) (AllIn.sub (by first | exact trivial | exact And.intro (by repeat first | exact .head _ | apply List.Mem.tail) trivial | exact And.intro (by repeat first | exact .head _ | apply List.Mem.tail) (And.intro (by repeat first | exact .head _ | apply List.Mem.tail) trivial))) ?_
        refine LJ_y rfl rfl (YJ_move rfl) ?_
        refine LJ_y rfl rfl (YJ_eqb rfl rfl ubool_4) ?_
        refine LJ_val (v := .bool true) (congrArg Value.bool (by first | (rw [beq_iff_eq, decide_eq_true_iff]; simp only [Mts, *, true_or, or_true]) | (rw [beq_iff_eq, decide_eq_decide]; simp only [Mts, *, false_or]))) ?_
        refine LJ_y rfl rfl (YJ_pickT rfl rfl) ?_
        refine LJ_y rfl rfl (YJ_assign rfl) ?_
        refine LJ_nil ?_
        refine QJ_then ?_
        refine CJ_ret ?_
        refine QJ_fin (.inl rfl) (μ' := []) (μr := _) (φ' := []) (res_tmp rfl rfl) (List.Perm.refl _) (fun _ h => nomatch h) ?_
        exact ⟨rfl, rfl, rfl⟩
      · try simp only [decide_eq_true_eq, decide_eq_false_iff_not, Bool.not_eq_true', Bool.not_eq_false', Bool.and_eq_true, Bool.and_eq_false_iff, beq_iff_eq, bne_iff_ne, beq_eq_false_iff_ne, bne_eq_false_iff_eq, ne_eq, decide_eq_decide] at h57
        first | refine LJ_y rfl rfl (YJ_loadN (vs := [_, _]) rfl tyi_53 (by repeat first | exact .head _ | apply List.Mem.tail) rfl rfl) ?_ | refine LJ_y rfl rfl (YJ_loadFactN (vs := [_, _]) rfl tyi_53 (by repeat first | exact .head _ | apply List.Mem.tail) rfl rfl) ?_
        first | refine LJ_y rfl rfl (YJ_loadN (vs := [_, _]) rfl tyi_53 (by repeat first | exact .head _ | apply List.Mem.tail) rfl rfl) ?_ | refine LJ_y rfl rfl (YJ_loadFactN (vs := [_, _]) rfl tyi_53 (by repeat first | exact .head _ | apply List.Mem.tail) rfl rfl) ?_
        first | refine LJ_y rfl rfl (YJ_loadN (vs := [_, _]) rfl tyi_53 (by repeat first | exact .head _ | apply List.Mem.tail) rfl rfl) ?_ | refine LJ_y rfl rfl (YJ_loadFactN (vs := [_, _]) rfl tyi_53 (by repeat first | exact .head _ | apply List.Mem.tail) rfl rfl) ?_
        refine LJ_call0 rfl rfl rfl rfl rfl (on_c he hc hd) (AllIn.sub (by first | exact trivial | exact And.intro (by repeat first | exact .head _ | apply List.Mem.tail) trivial | exact And.intro (by repeat first | exact .head _ | apply List.Mem.tail) (And.intro (by repeat first | exact .head _ | apply List.Mem.tail) trivial))) ?_
        refine LJ_y rfl rfl (YJ_pickF rfl rfl) ?_
        refine LJ_y rfl rfl (YJ_move rfl) ?_
        refine LJ_boolC (fun h63 => ?_) (fun h63 => ?_)
        · try simp only [decide_eq_true_eq, decide_eq_false_iff_not, Bool.not_eq_true', Bool.not_eq_false', Bool.and_eq_true, Bool.and_eq_false_iff, beq_iff_eq, bne_iff_ne, beq_eq_false_iff_ne, bne_eq_false_iff_eq, ne_eq, decide_eq_decide] at h63
          refine LJ_skip rfl rfl ?_
          refine LJ_skip rfl rfl ?_
          refine LJ_skip rfl rfl ?_
          refine LJ_skip rfl rfl ?_
          refine LJ_y rfl rfl (YJ_pickT rfl rfl) ?_
          refine LJ_y rfl rfl (YJ_move rfl) ?_
          refine LJ_skip rfl rfl ?_
          refine LJ_skip rfl rfl ?_
          refine LJ_skip rfl rfl ?_
          refine LJ_skip rfl rfl ?_
          refine LJ_y rfl rfl (YJ_pickT rfl rfl) ?_
          refine LJ_y rfl rfl (YJ_assign rfl) ?_
          refine LJ_nil ?_
          refine QJ_then ?_
          refine CJ_seq ?_
          refine CJ_reg ?_
          first | refine LJ_y rfl rfl (YJ_loadN (vs := [_, _]) rfl tyi_53 (by repeat first | exact .head _ | apply List.Mem.tail) rfl rfl) ?_ | refine LJ_y rfl rfl (YJ_loadFactN (vs := [_, _]) rfl tyi_53 (by repeat first | exact .head _ | apply List.Mem.tail) rfl rfl) ?_
          first | refine LJ_y rfl rfl (YJ_loadN (vs := [_, _]) rfl tyi_53 (by repeat first | exact .head _ | apply List.Mem.tail) rfl rfl) ?_ | refine LJ_y rfl rfl (YJ_loadFactN (vs := [_, _]) rfl tyi_53 (by repeat first | exact .head _ | apply List.Mem.tail) rfl rfl) ?_
          first | refine LJ_y rfl rfl (YJ_loadN (vs := [_, _]) rfl tyi_53 (by repeat first | exact .head _ | apply List.Mem.tail) rfl rfl) ?_ | refine LJ_y rfl rfl (YJ_loadFactN (vs := [_, _]) rfl tyi_53 (by repeat first | exact .head _ | apply List.Mem.tail) rfl rfl) ?_
          first | refine LJ_y rfl rfl (YJ_loadN (vs := [_, _]) rfl tyi_53 (by repeat first | exact .head _ | apply List.Mem.tail) rfl rfl) ?_ | refine LJ_y rfl rfl (YJ_loadFactN (vs := [_, _]) rfl tyi_53 (by repeat first | exact .head _ | apply List.Mem.tail) rfl rfl) ?_
          refine LJ_call0 rfl rfl rfl rfl rfl (crosses_c ha he hc hd) (AllIn.sub (by first | exact trivial | exact And.intro (by repeat first | exact .head _ | apply List.Mem.tail) trivial | exact And.intro (by repeat first | exact .head _ | apply List.Mem.tail) (And.intro (by repeat first | exact .head _ | apply List.Mem.tail) trivial))) ?_
          refine LJ_y rfl rfl (YJ_move rfl) ?_
          refine LJ_y rfl rfl (YJ_eqb rfl rfl ubool_4) ?_
          refine LJ_y rfl rfl (YJ_move rfl) ?_
          refine LJ_bool (c := true) (by first | (rw [beq_iff_eq, decide_eq_decide]; exact hcr) | (rw [beq_iff_eq, decide_eq_false_iff_not]; exact hn)) ?_
          first | refine LJ_y rfl rfl (YJ_loadN (vs := [_, _]) rfl tyi_53 (by repeat first | exact .head _ | apply List.Mem.tail) rfl rfl) ?_ | refine LJ_y rfl rfl (YJ_loadFactN (vs := [_, _]) rfl tyi_53 (by repeat first | exact .head _ | apply List.Mem.tail) rfl rfl) ?_
          first | refine LJ_y rfl rfl (YJ_loadN (vs := [_, _]) rfl tyi_53 (by repeat first | exact .head _ | apply List.Mem.tail) rfl rfl) ?_ | refine LJ_y rfl rfl (YJ_loadFactN (vs := [_, _]) rfl tyi_53 (by repeat first | exact .head _ | apply List.Mem.tail) rfl rfl) ?_
          first | refine LJ_y rfl rfl (YJ_loadN (vs := [_, _]) rfl tyi_53 (by repeat first | exact .head _ | apply List.Mem.tail) rfl rfl) ?_ | refine LJ_y rfl rfl (YJ_loadFactN (vs := [_, _]) rfl tyi_53 (by repeat first | exact .head _ | apply List.Mem.tail) rfl rfl) ?_
          first | refine LJ_y rfl rfl (YJ_loadN (vs := [_, _]) rfl tyi_53 (by repeat first | exact .head _ | apply List.Mem.tail) rfl rfl) ?_ | refine LJ_y rfl rfl (YJ_loadFactN (vs := [_, _]) rfl tyi_53 (by repeat first | exact .head _ | apply List.Mem.tail) rfl rfl) ?_
          refine LJ_call0 rfl rfl rfl rfl rfl (crosses_rev_c ha he hc hd) (AllIn.sub (by first | exact trivial | exact And.intro (by repeat first | exact .head _ | apply List.Mem.tail) trivial | exact And.intro (by repeat first | exact .head _ | apply List.Mem.tail) (And.intro (by repeat first | exact .head _ | apply List.Mem.tail) trivial))) ?_
          refine LJ_y rfl rfl (YJ_move rfl) ?_
          refine LJ_y rfl rfl (YJ_eqb rfl rfl ubool_4) ?_
          refine LJ_y rfl rfl (YJ_pickT rfl rfl) ?_
          refine LJ_y rfl rfl (YJ_move rfl) ?_
          refine LJ_bool (c := true) (by first | (rw [beq_iff_eq, decide_eq_decide]; exact hcr) | (rw [beq_iff_eq, decide_eq_false_iff_not]; exact hn)) ?_
          first | refine LJ_y rfl rfl (YJ_loadN (vs := [_, _]) rfl tyi_53 (by repeat first | exact .head _ | apply List.Mem.tail) rfl rfl) ?_ | refine LJ_y rfl rfl (YJ_loadFactN (vs := [_, _]) rfl tyi_53 (by repeat first | exact .head _ | apply List.Mem.tail) rfl rfl) ?_
          first | refine LJ_y rfl rfl (YJ_loadN (vs := [_, _]) rfl tyi_53 (by repeat first | exact .head _ | apply List.Mem.tail) rfl rfl) ?_ | refine LJ_y rfl rfl (YJ_loadFactN (vs := [_, _]) rfl tyi_53 (by repeat first | exact .head _ | apply List.Mem.tail) rfl rfl) ?_
          first | refine LJ_y rfl rfl (YJ_loadN (vs := [_, _]) rfl tyi_53 (by repeat first | exact .head _ | apply List.Mem.tail) rfl rfl) ?_ | refine LJ_y rfl rfl (YJ_loadFactN (vs := [_, _]) rfl tyi_53 (by repeat first | exact .head _ | apply List.Mem.tail) rfl rfl) ?_
          first | refine LJ_y rfl rfl (YJ_loadN (vs := [_, _]) rfl tyi_53 (by repeat first | exact .head _ | apply List.Mem.tail) rfl rfl) ?_ | refine LJ_y rfl rfl (YJ_loadFactN (vs := [_, _]) rfl tyi_53 (by repeat first | exact .head _ | apply List.Mem.tail) rfl rfl) ?_
          refine LJ_call0 rfl rfl rfl rfl rfl (meets_c ha he hc hd) (AllIn.sub (by first | exact trivial | exact And.intro (by repeat first | exact .head _ | apply List.Mem.tail) trivial | exact And.intro (by repeat first | exact .head _ | apply List.Mem.tail) (And.intro (by repeat first | exact .head _ | apply List.Mem.tail) trivial))) ?_
          refine LJ_y rfl rfl (YJ_move rfl) ?_
          refine LJ_y rfl rfl (YJ_eqb rfl rfl ubool_4) ?_
          refine LJ_y rfl rfl (YJ_pickT rfl rfl) ?_
          refine LJ_y rfl rfl (YJ_move rfl) ?_
          refine LJ_bool (c := true) (by first | (rw [beq_iff_eq, decide_eq_true_iff]; simp only [Mts, *, true_or, or_true]) | (rw [beq_iff_eq, decide_eq_decide]; simp only [Mts, *, false_or])) ?_
          first | refine LJ_y rfl rfl (YJ_loadN (vs := [_, _]) rfl tyi_53 (by repeat first | exact .head _ | apply List.Mem.tail) rfl rfl) ?_ | refine LJ_y rfl rfl (YJ_loadFactN (vs := [_, _]) rfl tyi_53 (by repeat first | exact .head _ | apply List.Mem.tail) rfl rfl) ?_
          first | refine LJ_y rfl rfl (YJ_loadN (vs := [_, _]) rfl tyi_53 (by repeat first | exact .head _ | apply List.Mem.tail) rfl rfl) ?_ | refine LJ_y rfl rfl (YJ_loadFactN (vs := [_, _]) rfl tyi_53 (by repeat first | exact .head _ | apply List.Mem.tail) rfl rfl) ?_
          first | refine LJ_y rfl rfl (YJ_loadN (vs := [_, _]) rfl tyi_53 (by repeat first | exact .head _ | apply List.Mem.tail) rfl rfl) ?_ | refine LJ_y rfl rfl (YJ_loadFactN (vs := [_, _]) rfl tyi_53 (by repeat first | exact .head _ | apply List.Mem.tail) rfl rfl) ?_
          first | refine LJ_y rfl rfl (YJ_loadN (vs := [_, _]) rfl tyi_53 (by repeat first | exact .head _ | apply List.Mem.tail) rfl rfl) ?_ | refine LJ_y rfl rfl (YJ_loadFactN (vs := [_, _]) rfl tyi_53 (by repeat first | exact .head _ | apply List.Mem.tail) rfl rfl) ?_
          refine LJ_call0 rfl rfl rfl rfl rfl (meets_turn_c ha he hc hd) (AllIn.sub (by first | exact trivial | exact And.intro (by repeat first | exact .head _ | apply List.Mem.tail) trivial | exact And.intro (by repeat first | exact .head _ | apply List.Mem.tail) (And.intro (by repeat first | exact .head _ | apply List.Mem.tail) trivial))) ?_
          refine LJ_y rfl rfl (YJ_move rfl) ?_
          refine LJ_y rfl rfl (YJ_eqb rfl rfl ubool_4) ?_
          refine LJ_val (v := .bool true) (congrArg Value.bool (by first | (rw [beq_iff_eq, decide_eq_true_iff]; simp only [Mts, *, true_or, or_true]) | (rw [beq_iff_eq, decide_eq_decide]; simp only [Mts, *, false_or]))) ?_
          refine LJ_y rfl rfl (YJ_pickT rfl rfl) ?_
          refine LJ_y rfl rfl (YJ_assign rfl) ?_
          refine LJ_nil ?_
          refine QJ_then ?_
          refine CJ_ret ?_
          refine QJ_fin (.inl rfl) (μ' := []) (μr := _) (φ' := []) (res_tmp rfl rfl) (List.Perm.refl _) (fun _ h => nomatch h) ?_
          exact ⟨rfl, rfl, rfl⟩
        · try simp only [decide_eq_true_eq, decide_eq_false_iff_not, Bool.not_eq_true', Bool.not_eq_false', Bool.and_eq_true, Bool.and_eq_false_iff, beq_iff_eq, bne_iff_ne, beq_eq_false_iff_ne, bne_eq_false_iff_eq, ne_eq, decide_eq_decide] at h63
          first | refine LJ_y rfl rfl (YJ_loadN (vs := [_, _]) rfl tyi_53 (by repeat first | exact .head _ | apply List.Mem.tail) rfl rfl) ?_ | refine LJ_y rfl rfl (YJ_loadFactN (vs := [_, _]) rfl tyi_53 (by repeat first | exact .head _ | apply List.Mem.tail) rfl rfl) ?_
          first | refine LJ_y rfl rfl (YJ_loadN (vs := [_, _]) rfl tyi_53 (by repeat first | exact .head _ | apply List.Mem.tail) rfl rfl) ?_ | refine LJ_y rfl rfl (YJ_loadFactN (vs := [_, _]) rfl tyi_53 (by repeat first | exact .head _ | apply List.Mem.tail) rfl rfl) ?_
          first | refine LJ_y rfl rfl (YJ_loadN (vs := [_, _]) rfl tyi_53 (by repeat first | exact .head _ | apply List.Mem.tail) rfl rfl) ?_ | refine LJ_y rfl rfl (YJ_loadFactN (vs := [_, _]) rfl tyi_53 (by repeat first | exact .head _ | apply List.Mem.tail) rfl rfl) ?_
          refine LJ_call0 rfl rfl rfl rfl rfl (on_c hc ha he) (AllIn.sub (by first | exact trivial | exact And.intro (by repeat first | exact .head _ | apply List.Mem.tail) trivial | exact And.intro (by repeat first | exact .head _ | apply List.Mem.tail) (And.intro (by repeat first | exact .head _ | apply List.Mem.tail) trivial))) ?_
          refine LJ_y rfl rfl (YJ_pickF rfl rfl) ?_
          refine LJ_y rfl rfl (YJ_move rfl) ?_
          refine LJ_boolC (fun h69 => ?_) (fun h69 => ?_)
          · try simp only [decide_eq_true_eq, decide_eq_false_iff_not, Bool.not_eq_true', Bool.not_eq_false', Bool.and_eq_true, Bool.and_eq_false_iff, beq_iff_eq, bne_iff_ne, beq_eq_false_iff_ne, bne_eq_false_iff_eq, ne_eq, decide_eq_decide] at h69
            refine LJ_skip rfl rfl ?_
            refine LJ_skip rfl rfl ?_
            refine LJ_skip rfl rfl ?_
            refine LJ_skip rfl rfl ?_
            refine LJ_y rfl rfl (YJ_pickT rfl rfl) ?_
            refine LJ_y rfl rfl (YJ_assign rfl) ?_
            refine LJ_nil ?_
            refine QJ_then ?_
            refine CJ_seq ?_
            refine CJ_reg ?_
            first | refine LJ_y rfl rfl (YJ_loadN (vs := [_, _]) rfl tyi_53 (by repeat first | exact .head _ | apply List.Mem.tail) rfl rfl) ?_ | refine LJ_y rfl rfl (YJ_loadFactN (vs := [_, _]) rfl tyi_53 (by repeat first | exact .head _ | apply List.Mem.tail) rfl rfl) ?_
            first | refine LJ_y rfl rfl (YJ_loadN (vs := [_, _]) rfl tyi_53 (by repeat first | exact .head _ | apply List.Mem.tail) rfl rfl) ?_ | refine LJ_y rfl rfl (YJ_loadFactN (vs := [_, _]) rfl tyi_53 (by repeat first | exact .head _ | apply List.Mem.tail) rfl rfl) ?_
            first | refine LJ_y rfl rfl (YJ_loadN (vs := [_, _]) rfl tyi_53 (by repeat first | exact .head _ | apply List.Mem.tail) rfl rfl) ?_ | refine LJ_y rfl rfl (YJ_loadFactN (vs := [_, _]) rfl tyi_53 (by repeat first | exact .head _ | apply List.Mem.tail) rfl rfl) ?_
            first | refine LJ_y rfl rfl (YJ_loadN (vs := [_, _]) rfl tyi_53 (by repeat first | exact .head _ | apply List.Mem.tail) rfl rfl) ?_ | refine LJ_y rfl rfl (YJ_loadFactN (vs := [_, _]) rfl tyi_53 (by repeat first | exact .head _ | apply List.Mem.tail) rfl rfl) ?_
            refine LJ_call0 rfl rfl rfl rfl rfl (crosses_c ha he hc hd) (AllIn.sub (by first | exact trivial | exact And.intro (by repeat first | exact .head _ | apply List.Mem.tail) trivial | exact And.intro (by repeat first | exact .head _ | apply List.Mem.tail) (And.intro (by repeat first | exact .head _ | apply List.Mem.tail) trivial))) ?_
            refine LJ_y rfl rfl (YJ_move rfl) ?_
            refine LJ_y rfl rfl (YJ_eqb rfl rfl ubool_4) ?_
            refine LJ_y rfl rfl (YJ_move rfl) ?_
            refine LJ_bool (c := true) (by first | (rw [beq_iff_eq, decide_eq_decide]; exact hcr) | (rw [beq_iff_eq, decide_eq_false_iff_not]; exact hn)) ?_
            first | refine LJ_y rfl rfl (YJ_loadN (vs := [_, _]) rfl tyi_53 (by repeat first | exact .head _ | apply List.Mem.tail) rfl rfl) ?_ | refine LJ_y rfl rfl (YJ_loadFactN (vs := [_, _]) rfl tyi_53 (by repeat first | exact .head _ | apply List.Mem.tail) rfl rfl) ?_
            first | refine LJ_y rfl rfl (YJ_loadN (vs := [_, _]) rfl tyi_53 (by repeat first | exact .head _ | apply List.Mem.tail) rfl rfl) ?_ | refine LJ_y rfl rfl (YJ_loadFactN (vs := [_, _]) rfl tyi_53 (by repeat first | exact .head _ | apply List.Mem.tail) rfl rfl) ?_
            first | refine LJ_y rfl rfl (YJ_loadN (vs := [_, _]) rfl tyi_53 (by repeat first | exact .head _ | apply List.Mem.tail) rfl rfl) ?_ | refine LJ_y rfl rfl (YJ_loadFactN (vs := [_, _]) rfl tyi_53 (by repeat first | exact .head _ | apply List.Mem.tail) rfl rfl) ?_
            first | refine LJ_y rfl rfl (YJ_loadN (vs := [_, _]) rfl tyi_53 (by repeat first | exact .head _ | apply List.Mem.tail) rfl rfl) ?_ | refine LJ_y rfl rfl (YJ_loadFactN (vs := [_, _]) rfl tyi_53 (by repeat first | exact .head _ | apply List.Mem.tail) rfl rfl) ?_
            refine LJ_call0 rfl rfl rfl rfl rfl (crosses_rev_c ha he hc hd) (AllIn.sub (by first | exact trivial | exact And.intro (by repeat first | exact .head _ | apply List.Mem.tail) trivial | exact And.intro (by repeat first | exact .head _ | apply List.Mem.tail) (And.intro (by repeat first | exact .head _ | apply List.Mem.tail) trivial))) ?_
            refine LJ_y rfl rfl (YJ_move rfl) ?_
            refine LJ_y rfl rfl (YJ_eqb rfl rfl ubool_4) ?_
            refine LJ_y rfl rfl (YJ_pickT rfl rfl) ?_
            refine LJ_y rfl rfl (YJ_move rfl) ?_
            refine LJ_bool (c := true) (by first | (rw [beq_iff_eq, decide_eq_decide]; exact hcr) | (rw [beq_iff_eq, decide_eq_false_iff_not]; exact hn)) ?_
            first | refine LJ_y rfl rfl (YJ_loadN (vs := [_, _]) rfl tyi_53 (by repeat first | exact .head _ | apply List.Mem.tail) rfl rfl) ?_ | refine LJ_y rfl rfl (YJ_loadFactN (vs := [_, _]) rfl tyi_53 (by repeat first | exact .head _ | apply List.Mem.tail) rfl rfl) ?_
            first | refine LJ_y rfl rfl (YJ_loadN (vs := [_, _]) rfl tyi_53 (by repeat first | exact .head _ | apply List.Mem.tail) rfl rfl) ?_ | refine LJ_y rfl rfl (YJ_loadFactN (vs := [_, _]) rfl tyi_53 (by repeat first | exact .head _ | apply List.Mem.tail) rfl rfl) ?_
            first | refine LJ_y rfl rfl (YJ_loadN (vs := [_, _]) rfl tyi_53 (by repeat first | exact .head _ | apply List.Mem.tail) rfl rfl) ?_ | refine LJ_y rfl rfl (YJ_loadFactN (vs := [_, _]) rfl tyi_53 (by repeat first | exact .head _ | apply List.Mem.tail) rfl rfl) ?_
            first | refine LJ_y rfl rfl (YJ_loadN (vs := [_, _]) rfl tyi_53 (by repeat first | exact .head _ | apply List.Mem.tail) rfl rfl) ?_ | refine LJ_y rfl rfl (YJ_loadFactN (vs := [_, _]) rfl tyi_53 (by repeat first | exact .head _ | apply List.Mem.tail) rfl rfl) ?_
            refine LJ_call0 rfl rfl rfl rfl rfl (meets_c ha he hc hd) (AllIn.sub (by first | exact trivial | exact And.intro (by repeat first | exact .head _ | apply List.Mem.tail) trivial | exact And.intro (by repeat first | exact .head _ | apply List.Mem.tail) (And.intro (by repeat first | exact .head _ | apply List.Mem.tail) trivial))) ?_
            refine LJ_y rfl rfl (YJ_move rfl) ?_
            refine LJ_y rfl rfl (YJ_eqb rfl rfl ubool_4) ?_
            refine LJ_y rfl rfl (YJ_pickT rfl rfl) ?_
            refine LJ_y rfl rfl (YJ_move rfl) ?_
            refine LJ_bool (c := true) (by first | (rw [beq_iff_eq, decide_eq_true_iff]; simp only [Mts, *, true_or, or_true]) | (rw [beq_iff_eq, decide_eq_decide]; simp only [Mts, *, false_or])) ?_
            first | refine LJ_y rfl rfl (YJ_loadN (vs := [_, _]) rfl tyi_53 (by repeat first | exact .head _ | apply List.Mem.tail) rfl rfl) ?_ | refine LJ_y rfl rfl (YJ_loadFactN (vs := [_, _]) rfl tyi_53 (by repeat first | exact .head _ | apply List.Mem.tail) rfl rfl) ?_
            first | refine LJ_y rfl rfl (YJ_loadN (vs := [_, _]) rfl tyi_53 (by repeat first | exact .head _ | apply List.Mem.tail) rfl rfl) ?_ | refine LJ_y rfl rfl (YJ_loadFactN (vs := [_, _]) rfl tyi_53 (by repeat first | exact .head _ | apply List.Mem.tail) rfl rfl) ?_
            first | refine LJ_y rfl rfl (YJ_loadN (vs := [_, _]) rfl tyi_53 (by repeat first | exact .head _ | apply List.Mem.tail) rfl rfl) ?_ | refine LJ_y rfl rfl (YJ_loadFactN (vs := [_, _]) rfl tyi_53 (by repeat first | exact .head _ | apply List.Mem.tail) rfl rfl) ?_
            first | refine LJ_y rfl rfl (YJ_loadN (vs := [_, _]) rfl tyi_53 (by repeat first | exact .head _ | apply List.Mem.tail) rfl rfl) ?_ | refine LJ_y rfl rfl (YJ_loadFactN (vs := [_, _]) rfl tyi_53 (by repeat first | exact .head _ | apply List.Mem.tail) rfl rfl) ?_
            refine LJ_call0 rfl rfl rfl rfl rfl (meets_turn_c ha he hc hd) (AllIn.sub (by first | exact trivial | exact And.intro (by repeat first | exact .head _ | apply List.Mem.tail) trivial | exact And.intro (by repeat first | exact .head _ | apply List.Mem.tail) (And.intro (by repeat first | exact .head _ | apply List.Mem.tail) trivial))) ?_
            refine LJ_y rfl rfl (YJ_move rfl) ?_
            refine LJ_y rfl rfl (YJ_eqb rfl rfl ubool_4) ?_
            refine LJ_val (v := .bool true) (congrArg Value.bool (by first | (rw [beq_iff_eq, decide_eq_true_iff]; simp only [Mts, *, true_or, or_true]) | (rw [beq_iff_eq, decide_eq_decide]; simp only [Mts, *, false_or]))) ?_
            refine LJ_y rfl rfl (YJ_pickT rfl rfl) ?_
            refine LJ_y rfl rfl (YJ_assign rfl) ?_
            refine LJ_nil ?_
            refine QJ_then ?_
            refine CJ_ret ?_
            refine QJ_fin (.inl rfl) (μ' := []) (μr := _) (φ' := []) (res_tmp rfl rfl) (List.Perm.refl _) (fun _ h => nomatch h) ?_
            exact ⟨rfl, rfl, rfl⟩
          · try simp only [decide_eq_true_eq, decide_eq_false_iff_not, Bool.not_eq_true', Bool.not_eq_false', Bool.and_eq_true, Bool.and_eq_false_iff, beq_iff_eq, bne_iff_ne, beq_eq_false_iff_ne, bne_eq_false_iff_eq, ne_eq, decide_eq_decide] at h69
            first | refine LJ_y rfl rfl (YJ_loadN (vs := [_, _]) rfl tyi_53 (by repeat first | exact .head _ | apply List.Mem.tail) rfl rfl) ?_ | refine LJ_y rfl rfl (YJ_loadFactN (vs := [_, _]) rfl tyi_53 (by repeat first | exact .head _ | apply List.Mem.tail) rfl rfl) ?_
            first | refine LJ_y rfl rfl (YJ_loadN (vs := [_, _]) rfl tyi_53 (by repeat first | exact .head _ | apply List.Mem.tail) rfl rfl) ?_ | refine LJ_y rfl rfl (YJ_loadFactN (vs := [_, _]) rfl tyi_53 (by repeat first | exact .head _ | apply List.Mem.tail) rfl rfl) ?_
            first | refine LJ_y rfl rfl (YJ_loadN (vs := [_, _]) rfl tyi_53 (by repeat first | exact .head _ | apply List.Mem.tail) rfl rfl) ?_ | refine LJ_y rfl rfl (YJ_loadFactN (vs := [_, _]) rfl tyi_53 (by repeat first | exact .head _ | apply List.Mem.tail) rfl rfl) ?_
            refine LJ_call0 rfl rfl rfl rfl rfl (on_c hd ha he) (AllIn.sub (by first | exact trivial | exact And.intro (by repeat first | exact .head _ | apply List.Mem.tail) trivial | exact And.intro (by repeat first | exact .head _ | apply List.Mem.tail) (And.intro (by repeat first | exact .head _ | apply List.Mem.tail) trivial))) ?_
            refine LJ_y rfl rfl (YJ_pickF rfl rfl) ?_
            refine LJ_y rfl rfl (YJ_assign rfl) ?_
            refine LJ_nil ?_
            refine QJ_then ?_
            refine CJ_seq ?_
            refine CJ_reg ?_
            first | refine LJ_y rfl rfl (YJ_loadN (vs := [_, _]) rfl tyi_53 (by repeat first | exact .head _ | apply List.Mem.tail) rfl rfl) ?_ | refine LJ_y rfl rfl (YJ_loadFactN (vs := [_, _]) rfl tyi_53 (by repeat first | exact .head _ | apply List.Mem.tail) rfl rfl) ?_
            first | refine LJ_y rfl rfl (YJ_loadN (vs := [_, _]) rfl tyi_53 (by repeat first | exact .head _ | apply List.Mem.tail) rfl rfl) ?_ | refine LJ_y rfl rfl (YJ_loadFactN (vs := [_, _]) rfl tyi_53 (by repeat first | exact .head _ | apply List.Mem.tail) rfl rfl) ?_
            first | refine LJ_y rfl rfl (YJ_loadN (vs := [_, _]) rfl tyi_53 (by repeat first | exact .head _ | apply List.Mem.tail) rfl rfl) ?_ | refine LJ_y rfl rfl (YJ_loadFactN (vs := [_, _]) rfl tyi_53 (by repeat first | exact .head _ | apply List.Mem.tail) rfl rfl) ?_
            first | refine LJ_y rfl rfl (YJ_loadN (vs := [_, _]) rfl tyi_53 (by repeat first | exact .head _ | apply List.Mem.tail) rfl rfl) ?_ | refine LJ_y rfl rfl (YJ_loadFactN (vs := [_, _]) rfl tyi_53 (by repeat first | exact .head _ | apply List.Mem.tail) rfl rfl) ?_
            refine LJ_call0 rfl rfl rfl rfl rfl (crosses_c ha he hc hd) (AllIn.sub (by first | exact trivial | exact And.intro (by repeat first | exact .head _ | apply List.Mem.tail) trivial | exact And.intro (by repeat first | exact .head _ | apply List.Mem.tail) (And.intro (by repeat first | exact .head _ | apply List.Mem.tail) trivial))) ?_
            refine LJ_y rfl rfl (YJ_move rfl) ?_
            refine LJ_y rfl rfl (YJ_eqb rfl rfl ubool_4) ?_
            refine LJ_y rfl rfl (YJ_move rfl) ?_
            refine LJ_bool (c := true) (by first | (rw [beq_iff_eq, decide_eq_decide]; exact hcr) | (rw [beq_iff_eq, decide_eq_false_iff_not]; exact hn)) ?_
            first | refine LJ_y rfl rfl (YJ_loadN (vs := [_, _]) rfl tyi_53 (by repeat first | exact .head _ | apply List.Mem.tail) rfl rfl) ?_ | refine LJ_y rfl rfl (YJ_loadFactN (vs := [_, _]) rfl tyi_53 (by repeat first | exact .head _ | apply List.Mem.tail) rfl rfl) ?_
            first | refine LJ_y rfl rfl (YJ_loadN (vs := [_, _]) rfl tyi_53 (by repeat first | exact .head _ | apply List.Mem.tail) rfl rfl) ?_ | refine LJ_y rfl rfl (YJ_loadFactN (vs := [_, _]) rfl tyi_53 (by repeat first | exact .head _ | apply List.Mem.tail) rfl rfl) ?_
            first | refine LJ_y rfl rfl (YJ_loadN (vs := [_, _]) rfl tyi_53 (by repeat first | exact .head _ | apply List.Mem.tail) rfl rfl) ?_ | refine LJ_y rfl rfl (YJ_loadFactN (vs := [_, _]) rfl tyi_53 (by repeat first | exact .head _ | apply List.Mem.tail) rfl rfl) ?_
            first | refine LJ_y rfl rfl (YJ_loadN (vs := [_, _]) rfl tyi_53 (by repeat first | exact .head _ | apply List.Mem.tail) rfl rfl) ?_ | refine LJ_y rfl rfl (YJ_loadFactN (vs := [_, _]) rfl tyi_53 (by repeat first | exact .head _ | apply List.Mem.tail) rfl rfl) ?_
            refine LJ_call0 rfl rfl rfl rfl rfl (crosses_rev_c ha he hc hd) (AllIn.sub (by first | exact trivial | exact And.intro (by repeat first | exact .head _ | apply List.Mem.tail) trivial | exact And.intro (by repeat first | exact .head _ | apply List.Mem.tail) (And.intro (by repeat first | exact .head _ | apply List.Mem.tail) trivial))) ?_
            refine LJ_y rfl rfl (YJ_move rfl) ?_
            refine LJ_y rfl rfl (YJ_eqb rfl rfl ubool_4) ?_
            refine LJ_y rfl rfl (YJ_pickT rfl rfl) ?_
            refine LJ_y rfl rfl (YJ_move rfl) ?_
            refine LJ_bool (c := true) (by first | (rw [beq_iff_eq, decide_eq_decide]; exact hcr) | (rw [beq_iff_eq, decide_eq_false_iff_not]; exact hn)) ?_
            first | refine LJ_y rfl rfl (YJ_loadN (vs := [_, _]) rfl tyi_53 (by repeat first | exact .head _ | apply List.Mem.tail) rfl rfl) ?_ | refine LJ_y rfl rfl (YJ_loadFactN (vs := [_, _]) rfl tyi_53 (by repeat first | exact .head _ | apply List.Mem.tail) rfl rfl) ?_
            first | refine LJ_y rfl rfl (YJ_loadN (vs := [_, _]) rfl tyi_53 (by repeat first | exact .head _ | apply List.Mem.tail) rfl rfl) ?_ | refine LJ_y rfl rfl (YJ_loadFactN (vs := [_, _]) rfl tyi_53 (by repeat first | exact .head _ | apply List.Mem.tail) rfl rfl) ?_
            first | refine LJ_y rfl rfl (YJ_loadN (vs := [_, _]) rfl tyi_53 (by repeat first | exact .head _ | apply List.Mem.tail) rfl rfl) ?_ | refine LJ_y rfl rfl (YJ_loadFactN (vs := [_, _]) rfl tyi_53 (by repeat first | exact .head _ | apply List.Mem.tail) rfl rfl) ?_
            first | refine LJ_y rfl rfl (YJ_loadN (vs := [_, _]) rfl tyi_53 (by repeat first | exact .head _ | apply List.Mem.tail) rfl rfl) ?_ | refine LJ_y rfl rfl (YJ_loadFactN (vs := [_, _]) rfl tyi_53 (by repeat first | exact .head _ | apply List.Mem.tail) rfl rfl) ?_
            refine LJ_call0 rfl rfl rfl rfl rfl (meets_c ha he hc hd) (AllIn.sub (by first | exact trivial | exact And.intro (by repeat first | exact .head _ | apply List.Mem.tail) trivial | exact And.intro (by repeat first | exact .head _ | apply List.Mem.tail) (And.intro (by repeat first | exact .head _ | apply List.Mem.tail) trivial))) ?_
            refine LJ_y rfl rfl (YJ_move rfl) ?_
            refine LJ_y rfl rfl (YJ_eqb rfl rfl ubool_4) ?_
            refine LJ_y rfl rfl (YJ_pickT rfl rfl) ?_
            refine LJ_y rfl rfl (YJ_move rfl) ?_
            refine LJ_bool (c := true) (by first | (rw [beq_iff_eq, decide_eq_true_iff]; simp only [Mts, *, true_or, or_true]) | (rw [beq_iff_eq, decide_eq_decide]; simp only [Mts, *, false_or])) ?_
            first | refine LJ_y rfl rfl (YJ_loadN (vs := [_, _]) rfl tyi_53 (by repeat first | exact .head _ | apply List.Mem.tail) rfl rfl) ?_ | refine LJ_y rfl rfl (YJ_loadFactN (vs := [_, _]) rfl tyi_53 (by repeat first | exact .head _ | apply List.Mem.tail) rfl rfl) ?_
            first | refine LJ_y rfl rfl (YJ_loadN (vs := [_, _]) rfl tyi_53 (by repeat first | exact .head _ | apply List.Mem.tail) rfl rfl) ?_ | refine LJ_y rfl rfl (YJ_loadFactN (vs := [_, _]) rfl tyi_53 (by repeat first | exact .head _ | apply List.Mem.tail) rfl rfl) ?_
            first | refine LJ_y rfl rfl (YJ_loadN (vs := [_, _]) rfl tyi_53 (by repeat first | exact .head _ | apply List.Mem.tail) rfl rfl) ?_ | refine LJ_y rfl rfl (YJ_loadFactN (vs := [_, _]) rfl tyi_53 (by repeat first | exact .head _ | apply List.Mem.tail) rfl rfl) ?_
            first | refine LJ_y rfl rfl (YJ_loadN (vs := [_, _]) rfl tyi_53 (by repeat first | exact .head _ | apply List.Mem.tail) rfl rfl) ?_ | refine LJ_y rfl rfl (YJ_loadFactN (vs := [_, _]) rfl tyi_53 (by repeat first | exact .head _ | apply List.Mem.tail) rfl rfl) ?_
            refine LJ_call0 rfl rfl rfl rfl rfl (meets_turn_c ha he hc hd) (AllIn.sub (by first | exact trivial | exact And.intro (by repeat first | exact .head _ | apply List.Mem.tail) trivial | exact And.intro (by repeat first | exact .head _ | apply List.Mem.tail) (And.intro (by repeat first | exact .head _ | apply List.Mem.tail) trivial))) ?_
            refine LJ_y rfl rfl (YJ_move rfl) ?_
            refine LJ_y rfl rfl (YJ_eqb rfl rfl ubool_4) ?_
            refine LJ_val (v := .bool true) (congrArg Value.bool (by first | (rw [beq_iff_eq, decide_eq_true_iff]; simp only [Mts, *, true_or, or_true]) | (rw [beq_iff_eq, decide_eq_decide]; simp only [Mts, *, false_or]))) ?_
            refine LJ_y rfl rfl (YJ_pickT rfl rfl) ?_
            refine LJ_y rfl rfl (YJ_assign rfl) ?_
            refine LJ_nil ?_
            refine QJ_then ?_
            refine CJ_ret ?_
            refine QJ_fin (.inl rfl) (μ' := []) (μr := _) (φ' := []) (res_tmp rfl rfl) (List.Perm.refl _) (fun _ h => nomatch h) ?_
            exact ⟨rfl, rfl, rfl⟩
  · try simp only [decide_eq_true_eq, decide_eq_false_iff_not, Bool.not_eq_true', Bool.not_eq_false', Bool.and_eq_true, Bool.and_eq_false_iff, beq_iff_eq, bne_iff_ne, beq_eq_false_iff_ne, bne_eq_false_iff_eq, ne_eq, decide_eq_decide] at h36
    have hn : ¬ (Crs (tm a1) (tm a2) (tm e1) (tm e2) (tm c1) (tm c2) (tm d1) (tm d2)) := fun h => h36 h.1
    refine AJ_skip 13 rfl (by kernel_rfl) (by kernel_rfl) rfl rfl ?_
    refine AJ_skip 14 rfl (by kernel_rfl) (by kernel_rfl) rfl rfl ?_
    refine AJ_skip 15 rfl (by kernel_rfl) (by kernel_rfl) rfl rfl ?_
    refine AJ_skip 16 rfl (by kernel_rfl) (by kernel_rfl) rfl rfl ?_
    refine AJ_skip 18 rfl (by kernel_rfl) (by kernel_rfl) rfl rfl ?_
    refine AJ_skip 19 rfl (by kernel_rfl) (by kernel_rfl) rfl rfl ?_
    refine AJ_skip 20 rfl (by kernel_rfl) (by kernel_rfl) rfl rfl ?_
    refine AJ_skip 21 rfl (by kernel_rfl) (by kernel_rfl) rfl rfl ?_
    refine AJ_skip 17 rfl (by kernel_rfl) (by kernel_rfl) rfl rfl ?_
    refine AJ_skip 22 rfl (by kernel_rfl) (by kernel_rfl) rfl rfl ?_
    refine AJ_skip 23 rfl (by kernel_rfl) (by kernel_rfl) rfl rfl ?_
    refine AJ_skip 24 rfl (by kernel_rfl) (by kernel_rfl) rfl rfl ?_
    refine AJ_y 25 rfl (by kernel_rfl) (by kernel_rfl) rfl rfl (YJ_pickF rfl rfl) ?_
    refine AJ_y 26 rfl (by kernel_rfl) (by kernel_rfl) rfl rfl (YJ_assign rfl) ?_
    refine AJ_done (by kernel_rfl) ?_
    refine QJ_then ?_
    refine CJ_seq ?_
    refine CJ_reg ?_
    refine LJ_y rfl rfl (YJ_move rfl) ?_
    refine LJ_y rfl rfl (YJ_move rfl) ?_
    first | refine LJ_y rfl rfl (YJ_loadN (vs := [_, _]) rfl tyi_53 (by repeat first | exact .head _ | apply List.Mem.tail) rfl rfl) ?_ | refine LJ_y rfl rfl (YJ_loadFactN (vs := [_, _]) rfl tyi_53 (by repeat first | exact .head _ | apply List.Mem.tail) rfl rfl) ?_
    first | refine LJ_y rfl rfl (YJ_loadN (vs := [_, _]) rfl tyi_53 (by repeat first | exact .head _ | apply List.Mem.tail) rfl rfl) ?_ | refine LJ_y rfl rfl (YJ_loadFactN (vs := [_, _]) rfl tyi_53 (by repeat first | exact .head _ | apply List.Mem.tail) rfl rfl) ?_
    first | refine LJ_y rfl rfl (YJ_loadN (vs := [_, _]) rfl tyi_53 (by repeat first | exact .head _ | apply List.Mem.tail) rfl rfl) ?_ | refine LJ_y rfl rfl (YJ_loadFactN (vs := [_, _]) rfl tyi_53 (by repeat first | exact .head _ | apply List.Mem.tail) rfl rfl) ?_
    refine LJ_call0 rfl rfl rfl rfl rfl (on_c ha hc hd) (AllIn.sub (by first | exact trivial | exact And.intro (by repeat first | exact .head _ | apply List.Mem.tail) trivial | exact And.intro (by repeat first | exact .head _ | apply List.Mem.tail) (And.intro (by repeat first | exact .head _ | apply List.Mem.tail) trivial))) ?_
    refine LJ_y rfl rfl (YJ_pickF rfl rfl) ?_
    refine LJ_y rfl rfl (YJ_move rfl) ?_
    refine LJ_boolC (fun h57 => ?_) (fun h57 => ?_)
    · try simp only [decide_eq_true_eq, decide_eq_false_iff_not, Bool.not_eq_true', Bool.not_eq_false', Bool.and_eq_true, Bool.and_eq_false_iff, beq_iff_eq, bne_iff_ne, beq_eq_false_iff_ne, bne_eq_false_iff_eq, ne_eq, decide_eq_decide] at h57
      refine LJ_skip rfl rfl ?_
      refine LJ_skip rfl rfl ?_
      refine LJ_skip rfl rfl ?_
      refine LJ_skip rfl rfl ?_
      refine LJ_y rfl rfl (YJ_pickT rfl rfl) ?_
      refine LJ_y rfl rfl (YJ_move rfl) ?_
      refine LJ_skip rfl rfl ?_
      refine LJ_skip rfl rfl ?_
      refine LJ_skip rfl rfl ?_
      refine LJ_skip rfl rfl ?_
      refine LJ_y rfl rfl (YJ_pickT rfl rfl) ?_
      refine LJ_y rfl rfl (YJ_move rfl) ?_
      refine LJ_skip rfl rfl ?_
      refine LJ_skip rfl rfl ?_
      refine LJ_skip rfl rfl ?_
      refine LJ_skip rfl rfl ?_
      refine LJ_y rfl rfl (YJ_pickT rfl rfl) ?_
      refine LJ_y rfl rfl (YJ_assign rfl) ?_
      refine LJ_nil ?_
      refine QJ_then ?_
      refine CJ_seq ?_
      refine CJ_reg ?_
      first | refine LJ_y rfl rfl (YJ_loadN (vs := [_, _]) rfl tyi_53 (by repeat first | exact .head _ | apply List.Mem.tail) rfl rfl) ?_ | refine LJ_y rfl rfl (YJ_loadFactN (vs := [_, _]) rfl tyi_53 (by repeat first | exact .head _ | apply List.Mem.tail) rfl rfl) ?_
      first | refine LJ_y rfl rfl (YJ_loadN (vs := [_, _]) rfl tyi_53 (by repeat first | exact .head _ | apply List.Mem.tail) rfl rfl) ?_ | refine LJ_y rfl rfl (YJ_loadFactN (vs := [_, _]) rfl tyi_53 (by repeat first | exact .head _ | apply List.Mem.tail) rfl rfl) ?_
      first | refine LJ_y rfl rfl (YJ_loadN (vs := [_, _]) rfl tyi_53 (by repeat first | exact .head _ | apply List.Mem.tail) rfl rfl) ?_ | refine LJ_y rfl rfl (YJ_loadFactN (vs := [_, _]) rfl tyi_53 (by repeat first | exact .head _ | apply List.Mem.tail) rfl rfl) ?_
      first | refine LJ_y rfl rfl (YJ_loadN (vs := [_, _]) rfl tyi_53 (by repeat first | exact .head _ | apply List.Mem.tail) rfl rfl) ?_ | refine LJ_y rfl rfl (YJ_loadFactN (vs := [_, _]) rfl tyi_53 (by repeat first | exact .head _ | apply List.Mem.tail) rfl rfl) ?_
      refine LJ_call0 rfl rfl rfl rfl rfl (crosses_c ha he hc hd) (AllIn.sub (by first | exact trivial | exact And.intro (by repeat first | exact .head _ | apply List.Mem.tail) trivial | exact And.intro (by repeat first | exact .head _ | apply List.Mem.tail) (And.intro (by repeat first | exact .head _ | apply List.Mem.tail) trivial))) ?_
      refine LJ_y rfl rfl (YJ_move rfl) ?_
      refine LJ_y rfl rfl (YJ_eqb rfl rfl ubool_4) ?_
      refine LJ_y rfl rfl (YJ_move rfl) ?_
      refine LJ_bool (c := true) (by first | (rw [beq_iff_eq, decide_eq_decide]; exact hcr) | (rw [beq_iff_eq, decide_eq_false_iff_not]; exact hn)) ?_
      first | refine LJ_y rfl rfl (YJ_loadN (vs := [_, _]) rfl tyi_53 (by repeat first | exact .head _ | apply List.Mem.tail) rfl rfl) ?_ | refine LJ_y rfl rfl (YJ_loadFactN (vs := [_, _]) rfl tyi_53 (by repeat first | exact .head _ | apply List.Mem.tail) rfl rfl) ?_
      first | refine LJ_y rfl rfl (YJ_loadN (vs := [_, _]) rfl tyi_53 (by repeat first | exact .head _ | apply List.Mem.tail) rfl rfl) ?_ | refine LJ_y rfl rfl (YJ_loadFactN (vs := [_, _]) rfl tyi_53 (by repeat first | exact .head _ | apply List.Mem.tail) rfl rfl) ?_
      first | refine LJ_y rfl rfl (YJ_loadN (vs := [_, _]) rfl tyi_53 (by repeat first | exact .head _ | apply List.Mem.tail) rfl rfl) ?_ | refine LJ_y rfl rfl (YJ_loadFactN (vs := [_, _]) rfl tyi_53 (by repeat first | exact .head _ | apply List.Mem.tail) rfl rfl) ?_
      first | refine LJ_y rfl rfl (YJ_loadN (vs := [_, _]) rfl tyi_53 (by repeat first | exact .head _ | apply List.Mem.tail) rfl rfl) ?_ | refine LJ_y rfl rfl (YJ_loadFactN (vs := [_, _]) rfl tyi_53 (by repeat first | exact .head _ | apply List.Mem.tail) rfl rfl) ?_
      refine LJ_call0 rfl rfl rfl rfl rfl (crosses_rev_c ha he hc hd) (AllIn.sub (by first | exact trivial | exact And.intro (by repeat first | exact .head _ | apply List.Mem.tail) trivial | exact And.intro (by repeat first | exact .head _ | apply List.Mem.tail) (And.intro (by repeat first | exact .head _ | apply List.Mem.tail) trivial))) ?_
      refine LJ_y rfl rfl (YJ_move rfl) ?_
      refine LJ_y rfl rfl (YJ_eqb rfl rfl ubool_4) ?_
      refine LJ_y rfl rfl (YJ_pickT rfl rfl) ?_
      refine LJ_y rfl rfl (YJ_move rfl) ?_
      refine LJ_bool (c := true) (by first | (rw [beq_iff_eq, decide_eq_decide]; exact hcr) | (rw [beq_iff_eq, decide_eq_false_iff_not]; exact hn)) ?_
      first | refine LJ_y rfl rfl (YJ_loadN (vs := [_, _]) rfl tyi_53 (by repeat first | exact .head _ | apply List.Mem.tail) rfl rfl) ?_ | refine LJ_y rfl rfl (YJ_loadFactN (vs := [_, _]) rfl tyi_53 (by repeat first | exact .head _ | apply List.Mem.tail) rfl rfl) ?_
      first | refine LJ_y rfl rfl (YJ_loadN (vs := [_, _]) rfl tyi_53 (by repeat first | exact .head _ | apply List.Mem.tail) rfl rfl) ?_ | refine LJ_y rfl rfl (YJ_loadFactN (vs := [_, _]) rfl tyi_53 (by repeat first | exact .head _ | apply List.Mem.tail) rfl rfl) ?_
      first | refine LJ_y rfl rfl (YJ_loadN (vs := [_, _]) rfl tyi_53 (by repeat first | exact .head _ | apply List.Mem.tail) rfl rfl) ?_ | refine LJ_y rfl rfl (YJ_loadFactN (vs := [_, _]) rfl tyi_53 (by repeat first | exact .head _ | apply List.Mem.tail) rfl rfl) ?_
      first | refine LJ_y rfl rfl (YJ_loadN (vs := [_, _]) rfl tyi_53 (by repeat first | exact .head _ | apply List.Mem.tail) rfl rfl) ?_ | refine LJ_y rfl rfl (YJ_loadFactN (vs := [_, _]) rfl tyi_53 (by repeat first | exact .head _ | apply List.Mem.tail) rfl rfl) ?_
      refine LJ_call0 rfl rfl rfl rfl rfl (meets_c ha he hc hd) (AllIn.sub (by first | exact trivial | exact And.intro (by repeat first | exact .head _ | apply List.Mem.tail) trivial | exact And.intro (by repeat first | exact .head _ | apply List.Mem.tail) (And.intro (by repeat first | exact .head _ | apply List.Mem.tail) trivial))) ?_
      refine LJ_y rfl rfl (YJ_move rfl) ?_
      refine LJ_y rfl rfl (YJ_eqb rfl rfl ubool_4) ?_
      refine LJ_y rfl rfl (YJ_pickT rfl rfl) ?_
      refine LJ_y rfl rfl (YJ_move rfl) ?_
      refine LJ_bool (c := true) (by first | (rw [beq_iff_eq, decide_eq_true_iff]; simp only [Mts, *, true_or, or_true]) | (rw [beq_iff_eq, decide_eq_decide]; simp only [Mts, *, false_or])) ?_
      first | refine LJ_y rfl rfl (YJ_loadN (vs := [_, _]) rfl tyi_53 (by repeat first | exact .head _ | apply List.Mem.tail) rfl rfl) ?_ | refine LJ_y rfl rfl (YJ_loadFactN (vs := [_, _]) rfl tyi_53 (by repeat first | exact .head _ | apply List.Mem.tail) rfl rfl) ?_
      first | refine LJ_y rfl rfl (YJ_loadN (vs := [_, _]) rfl tyi_53 (by repeat first | exact .head _ | apply List.Mem.tail) rfl rfl) ?_ | refine LJ_y rfl rfl (YJ_loadFactN (vs := [_, _]) rfl tyi_53 (by repeat first | exact .head _ | apply List.Mem.tail) rfl rfl) ?_
      first | refine LJ_y rfl rfl (YJ_loadN (vs := [_, _]) rfl tyi_53 (by repeat first | exact .head _ | apply List.Mem.tail) rfl rfl) ?_ | refine LJ_y rfl rfl (YJ_loadFactN (vs := [_, _]) rfl tyi_53 (by repeat first | exact .head _ | apply List.Mem.tail) rfl rfl) ?_
      first | refine LJ_y rfl rfl (YJ_loadN (vs := [_, _]) rfl tyi_53 (by repeat first | exact .head _ | apply List.Mem.tail) rfl rfl) ?_ | refine LJ_y rfl rfl (YJ_loadFactN (vs := [_, _]) rfl tyi_53 (by repeat first | exact .head _ | apply List.Mem.tail) rfl rfl) ?_
      refine LJ_call0 rfl rfl rfl rfl rfl (meets_turn_c ha he hc hd) (AllIn.sub (by first | exact trivial | exact And.intro (by repeat first | exact .head _ | apply List.Mem.tail) trivial | exact And.intro (by repeat first | exact .head _ | apply List.Mem.tail) (And.intro (by repeat first | exact .head _ | apply List.Mem.tail) trivial))) ?_
      refine LJ_y rfl rfl (YJ_move rfl) ?_
      refine LJ_y rfl rfl (YJ_eqb rfl rfl ubool_4) ?_
      refine LJ_val (v := .bool true) (congrArg Value.bool (by first | (rw [beq_iff_eq, decide_eq_true_iff]; simp only [Mts, *, true_or, or_true]) | (rw [beq_iff_eq, decide_eq_decide]; simp only [Mts, *, false_or]))) ?_
      refine LJ_y rfl rfl (YJ_pickT rfl rfl) ?_
      refine LJ_y rfl rfl (YJ_assign rfl) ?_
      refine LJ_nil ?_
      refine QJ_then ?_
      refine CJ_ret ?_
      refine QJ_fin (.inl rfl) (μ' := []) (μr := _) (φ' := []) (res_tmp rfl rfl) (List.Perm.refl _) (fun _ h => nomatch h) ?_
      exact ⟨rfl, rfl, rfl⟩
    · try simp only [decide_eq_true_eq, decide_eq_false_iff_not, Bool.not_eq_true', Bool.not_eq_false', Bool.and_eq_true, Bool.and_eq_false_iff, beq_iff_eq, bne_iff_ne, beq_eq_false_iff_ne, bne_eq_false_iff_eq, ne_eq, decide_eq_decide] at h57
      first | refine LJ_y rfl rfl (YJ_loadN (vs := [_, _]) rfl tyi_53 (by repeat first | exact .head _ | apply List.Mem.tail) rfl rfl) ?_ | refine LJ_y rfl rfl (YJ_loadFactN (vs := [_, _]) rfl tyi_53 (by repeat first | exact .head _ | apply List.Mem.tail) rfl rfl) ?_
      first | refine LJ_y rfl rfl (YJ_loadN (vs := [_, _]) rfl tyi_53 (by repeat first | exact .head _ | apply List.Mem.tail) rfl rfl) ?_ | refine LJ_y rfl rfl (YJ_loadFactN (vs := [_, _]) rfl tyi_53 (by repeat first | exact .head _ | apply List.Mem.tail) rfl rfl) ?_
      first | refine LJ_y rfl rfl (YJ_loadN (vs := [_, _]) rfl tyi_53 (by repeat first | exact .head _ | apply List.Mem.tail) rfl rfl) ?_ | refine LJ_y rfl rfl (YJ_loadFactN (vs := [_, _]) rfl tyi_53 (by repeat first | exact .head _ | apply List.Mem.tail) rfl rfl) ?_
      refine LJ_call0 rfl rfl rfl rfl rfl (on_c he hc hd) (AllIn.sub (by first | exact trivial | exact And.intro (by repeat first | exact .head _ | apply List.Mem.tail) trivial | exact And.intro (by repeat first | exact .head _ | apply List.Mem.tail) (And.intro (by repeat first | exact .head _ | apply List.Mem.tail) trivial))) ?_
      refine LJ_y rfl rfl (YJ_pickF rfl rfl) ?_
      refine LJ_y rfl rfl (YJ_move rfl) ?_
      refine LJ_boolC (fun h63 => ?_) (fun h63 => ?_)
      · try simp only [decide_eq_true_eq, decide_eq_false_iff_not, Bool.not_eq_true', Bool.not_eq_false', Bool.and_eq_true, Bool.and_eq_false_iff, beq_iff_eq, bne_iff_ne, beq_eq_false_iff_ne, bne_eq_false_iff_eq, ne_eq, decide_eq_decide] at h63
        refine LJ_skip rfl rfl ?_
        refine LJ_skip rfl rfl ?_
        refine LJ_skip rfl rfl ?_
        refine LJ_skip rfl rfl ?_
        refine LJ_y rfl rfl (YJ_pickT rfl rfl) ?_
        refine LJ_y rfl rfl (YJ_move rfl) ?_
        refine LJ_skip rfl rfl ?_
        refine LJ_skip rfl rfl ?_
        refine LJ_skip rfl rfl ?_
        refine LJ_skip rfl rfl ?_
        refine LJ_y rfl rfl (YJ_pickT rfl rfl) ?_
        refine LJ_y rfl rfl (YJ_assign rfl) ?_
        refine LJ_nil ?_
        refine QJ_then ?_
        refine CJ_seq ?_
        refine CJ_reg ?_
        first | refine LJ_y rfl rfl (YJ_loadN (vs := [_, _]) rfl tyi_53 (by repeat first | exact .head _ | apply List.Mem.tail) rfl rfl) ?_ | refine LJ_y rfl rfl (YJ_loadFactN (vs := [_, _]) rfl tyi_53 (by repeat first | exact .head _ | apply List.Mem.tail) rfl rfl) ?_
        first | refine LJ_y rfl rfl (YJ_loadN (vs := [_, _]) rfl tyi_53 (by repeat first | exact .head _ | apply List.Mem.tail) rfl rfl) ?_ | refine LJ_y rfl rfl (YJ_loadFactN (vs := [_, _]) rfl tyi_53 (by repeat first | exact .head _ | apply List.Mem.tail) rfl rfl) ?_
        first | refine LJ_y rfl rfl (YJ_loadN (vs := [_, _]) rfl tyi_53 (by repeat first | exact .head _ | apply List.Mem.tail) rfl rfl) ?_ | refine LJ_y rfl rfl (YJ_loadFactN (vs := [_, _]) rfl tyi_53 (by repeat first | exact .head _ | apply List.Mem.tail) rfl rfl) ?_
        first | refine LJ_y rfl rfl (YJ_loadN (vs := [_, _]) rfl tyi_53 (by repeat first | exact .head _ | apply List.Mem.tail) rfl rfl) ?_ | refine LJ_y rfl rfl (YJ_loadFactN (vs := [_, _]) rfl tyi_53 (by repeat first | exact .head _ | apply List.Mem.tail) rfl rfl) ?_
        refine LJ_call0 rfl rfl rfl rfl rfl (crosses_c ha he hc hd) (AllIn.sub (by first | exact trivial | exact And.intro (by repeat first | exact .head _ | apply List.Mem.tail) trivial | exact And.intro (by repeat first | exact .head _ | apply List.Mem.tail) (And.intro (by repeat first | exact .head _ | apply List.Mem.tail) trivial))) ?_
        refine LJ_y rfl rfl (YJ_move rfl) ?_
        refine LJ_y rfl rfl (YJ_eqb rfl rfl ubool_4) ?_
        refine LJ_y rfl rfl (YJ_move rfl) ?_
        refine LJ_bool (c := true) (by first | (rw [beq_iff_eq, decide_eq_decide]; exact hcr) | (rw [beq_iff_eq, decide_eq_false_iff_not]; exact hn)) ?_
        first | refine LJ_y rfl rfl (YJ_loadN (vs := [_, _]) rfl tyi_53 (by repeat first | exact .head _ | apply List.Mem.tail) rfl rfl) ?_ | refine LJ_y rfl rfl (YJ_loadFactN (vs := [_, _]) rfl tyi_53 (by repeat first | exact .head _ | apply List.Mem.tail) rfl rfl) ?_
        first | refine LJ_y rfl rfl (YJ_loadN (vs := [_, _]) rfl tyi_53 (by repeat first | exact .head _ | apply List.Mem.tail) rfl rfl) ?_ | refine LJ_y rfl rfl (YJ_loadFactN (vs := [_, _]) rfl tyi_53 (by repeat first | exact .head _ | apply List.Mem.tail) rfl rfl) ?_
        first | refine LJ_y rfl rfl (YJ_loadN (vs := [_, _]) rfl tyi_53 (by repeat first | exact .head _ | apply List.Mem.tail) rfl rfl) ?_ | refine LJ_y rfl rfl (YJ_loadFactN (vs := [_, _]) rfl tyi_53 (by repeat first | exact .head _ | apply List.Mem.tail) rfl rfl) ?_
        first | refine LJ_y rfl rfl (YJ_loadN (vs := [_, _]) rfl tyi_53 (by repeat first | exact .head _ | apply List.Mem.tail) rfl rfl) ?_ | refine LJ_y rfl rfl (YJ_loadFactN (vs := [_, _]) rfl tyi_53 (by repeat first | exact .head _ | apply List.Mem.tail) rfl rfl) ?_
        refine LJ_call0 rfl rfl rfl rfl rfl (crosses_rev_c ha he hc hd) (AllIn.sub (by first | exact trivial | exact And.intro (by repeat first | exact .head _ | apply List.Mem.tail) trivial | exact And.intro (by repeat first | exact .head _ | apply List.Mem.tail) (And.intro (by repeat first | exact .head _ | apply List.Mem.tail) trivial))) ?_
        refine LJ_y rfl rfl (YJ_move rfl) ?_
        refine LJ_y rfl rfl (YJ_eqb rfl rfl ubool_4) ?_
        refine LJ_y rfl rfl (YJ_pickT rfl rfl) ?_
        refine LJ_y rfl rfl (YJ_move rfl) ?_
        refine LJ_bool (c := true) (by first | (rw [beq_iff_eq, decide_eq_decide]; exact hcr) | (rw [beq_iff_eq, decide_eq_false_iff_not]; exact hn)) ?_
        first | refine LJ_y rfl rfl (YJ_loadN (vs := [_, _]) rfl tyi_53 (by repeat first | exact .head _ | apply List.Mem.tail) rfl rfl) ?_ | refine LJ_y rfl rfl (YJ_loadFactN (vs := [_, _]) rfl tyi_53 (by repeat first | exact .head _ | apply List.Mem.tail) rfl rfl) ?_
        first | refine LJ_y rfl rfl (YJ_loadN (vs := [_, _]) rfl tyi_53 (by repeat first | exact .head _ | apply List.Mem.tail) rfl rfl) ?_ | refine LJ_y rfl rfl (YJ_loadFactN (vs := [_, _]) rfl tyi_53 (by repeat first | exact .head _ | apply List.Mem.tail) rfl rfl) ?_
        first | refine LJ_y rfl rfl (YJ_loadN (vs := [_, _]) rfl tyi_53 (by repeat first | exact .head _ | apply List.Mem.tail) rfl rfl) ?_ | refine LJ_y rfl rfl (YJ_loadFactN (vs := [_, _]) rfl tyi_53 (by repeat first | exact .head _ | apply List.Mem.tail) rfl rfl) ?_
        first | refine LJ_y rfl rfl (YJ_loadN (vs := [_, _]) rfl tyi_53 (by repeat first | exact .head _ | apply List.Mem.tail) rfl rfl) ?_ | refine LJ_y rfl rfl (YJ_loadFactN (vs := [_, _]) rfl tyi_53 (by repeat first | exact .head _ | apply List.Mem.tail) rfl rfl) ?_
        refine LJ_call0 rfl rfl rfl rfl rfl (meets_c ha he hc hd) (AllIn.sub (by first | exact trivial | exact And.intro (by repeat first | exact .head _ | apply List.Mem.tail) trivial | exact And.intro (by repeat first | exact .head _ | apply List.Mem.tail) (And.intro (by repeat first | exact .head _ | apply List.Mem.tail) trivial))) ?_
        refine LJ_y rfl rfl (YJ_move rfl) ?_
        refine LJ_y rfl rfl (YJ_eqb rfl rfl ubool_4) ?_
        refine LJ_y rfl rfl (YJ_pickT rfl rfl) ?_
        refine LJ_y rfl rfl (YJ_move rfl) ?_
        refine LJ_bool (c := true) (by first | (rw [beq_iff_eq, decide_eq_true_iff]; simp only [Mts, *, true_or, or_true]) | (rw [beq_iff_eq, decide_eq_decide]; simp only [Mts, *, false_or])) ?_
        first | refine LJ_y rfl rfl (YJ_loadN (vs := [_, _]) rfl tyi_53 (by repeat first | exact .head _ | apply List.Mem.tail) rfl rfl) ?_ | refine LJ_y rfl rfl (YJ_loadFactN (vs := [_, _]) rfl tyi_53 (by repeat first | exact .head _ | apply List.Mem.tail) rfl rfl) ?_
        first | refine LJ_y rfl rfl (YJ_loadN (vs := [_, _]) rfl tyi_53 (by repeat first | exact .head _ | apply List.Mem.tail) rfl rfl) ?_ | refine LJ_y rfl rfl (YJ_loadFactN (vs := [_, _]) rfl tyi_53 (by repeat first | exact .head _ | apply List.Mem.tail) rfl rfl) ?_
        first | refine LJ_y rfl rfl (YJ_loadN (vs := [_, _]) rfl tyi_53 (by repeat first | exact .head _ | apply List.Mem.tail) rfl rfl) ?_ | refine LJ_y rfl rfl (YJ_loadFactN (vs := [_, _]) rfl tyi_53 (by repeat first | exact .head _ | apply List.Mem.tail) rfl rfl) ?_
        first | refine LJ_y rfl rfl (YJ_loadN (vs := [_, _]) rfl tyi_53 (by repeat first | exact .head _ | apply List.Mem.tail) rfl rfl) ?_ | refine LJ_y rfl rfl (YJ_loadFactN (vs := [_, _]) rfl tyi_53 (by repeat first | exact .head _ | apply List.Mem.tail) rfl rfl) ?_
        refine LJ_call0 rfl rfl rfl rfl rfl (meets_turn_c ha he hc hd) (AllIn.sub (by first | exact trivial | exact And.intro (by repeat first | exact .head _ | apply List.Mem.tail) trivial | exact And.intro (by repeat first | exact .head _ | apply List.Mem.tail) (And.intro (by repeat first | exact .head _ | apply List.Mem.tail) trivial))) ?_
        refine LJ_y rfl rfl (YJ_move rfl) ?_
        refine LJ_y rfl rfl (YJ_eqb rfl rfl ubool_4) ?_
        refine LJ_val (v := .bool true) (congrArg Value.bool (by first | (rw [beq_iff_eq, decide_eq_true_iff]; simp only [Mts, *, true_or, or_true]) | (rw [beq_iff_eq, decide_eq_decide]; simp only [Mts, *, false_or]))) ?_
        refine LJ_y rfl rfl (YJ_pickT rfl rfl) ?_
        refine LJ_y rfl rfl (YJ_assign rfl) ?_
        refine LJ_nil ?_
        refine QJ_then ?_
        refine CJ_ret ?_
        refine QJ_fin (.inl rfl) (μ' := []) (μr := _) (φ' := []) (res_tmp rfl rfl) (List.Perm.refl _) (fun _ h => nomatch h) ?_
        exact ⟨rfl, rfl, rfl⟩
      · try simp only [decide_eq_true_eq, decide_eq_false_iff_not, Bool.not_eq_true', Bool.not_eq_false', Bool.and_eq_true, Bool.and_eq_false_iff, beq_iff_eq, bne_iff_ne, beq_eq_false_iff_ne, bne_eq_false_iff_eq, ne_eq, decide_eq_decide] at h63
        first | refine LJ_y rfl rfl (YJ_loadN (vs := [_, _]) rfl tyi_53 (by repeat first | exact .head _ | apply List.Mem.tail) rfl rfl) ?_ | refine LJ_y rfl rfl (YJ_loadFactN (vs := [_, _]) rfl tyi_53 (by repeat first | exact .head _ | apply List.Mem.tail) rfl rfl) ?_
        first | refine LJ_y rfl rfl (YJ_loadN (vs := [_, _]) rfl tyi_53 (by repeat first | exact .head _ | apply List.Mem.tail) rfl rfl) ?_ | refine LJ_y rfl rfl (YJ_loadFactN (vs := [_, _]) rfl tyi_53 (by repeat first | exact .head _ | apply List.Mem.tail) rfl rfl) ?_
        first | refine LJ_y rfl rfl (YJ_loadN (vs := [_, _]) rfl tyi_53 (by repeat first | exact .head _ | apply List.Mem.tail) rfl rfl) ?_ | refine LJ_y rfl rfl (YJ_loadFactN (vs := [_, _]) rfl tyi_53 (by repeat first | exact .head _ | apply List.Mem.tail) rfl rfl) ?_
        refine LJ_call0 rfl rfl rfl rfl rfl (on_c hc ha he) (AllIn.sub (by first | exact trivial | exact And.intro (by repeat first | exact .head _ | apply List.Mem.tail) trivial | exact And.intro (by repeat first | exact .head _ | apply List.Mem.tail) (And.intro (by repeat first | exact .head _ | apply List.Mem.tail) trivial))) ?_
        refine LJ_y rfl rfl (YJ_pickF rfl rfl) ?_
        refine LJ_y rfl rfl (YJ_move rfl) ?_
        refine LJ_boolC (fun h69 => ?_) (fun h69 => ?_)
        · try simp only [decide_eq_true_eq, decide_eq_false_iff_not, Bool.not_eq_true', Bool.not_eq_false', Bool.and_eq_true, Bool.and_eq_false_iff, beq_iff_eq, bne_iff_ne, beq_eq_false_iff_ne, bne_eq_false_iff_eq, ne_eq, decide_eq_decide] at h69
          refine LJ_skip rfl rfl ?_
          refine LJ_skip rfl rfl ?_
          refine LJ_skip rfl rfl ?_
          refine LJ_skip rfl rfl ?_
          refine LJ_y rfl rfl (YJ_pickT rfl rfl) ?_
          refine LJ_y rfl rfl (YJ_assign rfl) ?_
          refine LJ_nil ?_
          refine QJ_then ?_
          refine CJ_seq ?_
          refine CJ_reg ?_
          first | refine LJ_y rfl rfl (YJ_loadN (vs := [_, _]) rfl tyi_53 (by repeat first | exact .head _ | apply List.Mem.tail) rfl rfl) ?_ | refine LJ_y rfl rfl (YJ_loadFactN (vs := [_, _]) rfl tyi_53 (by repeat first | exact .head _ | apply List.Mem.tail) rfl rfl) ?_
          first | refine LJ_y rfl rfl (YJ_loadN (vs := [_, _]) rfl tyi_53 (by repeat first | exact .head _ | apply List.Mem.tail) rfl rfl) ?_ | refine LJ_y rfl rfl (YJ_loadFactN (vs := [_, _]) rfl tyi_53 (by repeat first | exact .head _ | apply List.Mem.tail) rfl rfl) ?_
          first | refine LJ_y rfl rfl (YJ_loadN (vs := [_, _]) rfl tyi_53 (by repeat first | exact .head _ | apply List.Mem.tail) rfl rfl) ?_ | refine LJ_y rfl rfl (YJ_loadFactN (vs := [_, _]) rfl tyi_53 (by repeat first | exact .head _ | apply List.Mem.tail) rfl rfl) ?_
          first | refine LJ_y rfl rfl (YJ_loadN (vs := [_, _]) rfl tyi_53 (by repeat first | exact .head _ | apply List.Mem.tail) rfl rfl) ?_ | refine LJ_y rfl rfl (YJ_loadFactN (vs := [_, _]) rfl tyi_53 (by repeat first | exact .head _ | apply List.Mem.tail) rfl rfl) ?_
          refine LJ_call0 rfl rfl rfl rfl rfl (crosses_c ha he hc hd) (AllIn.sub (by first | exact trivial | exact And.intro (by repeat first | exact .head _ | apply List.Mem.tail) trivial | exact And.intro (by repeat first | exact .head _ | apply List.Mem.tail) (And.intro (by repeat first | exact .head _ | apply List.Mem.tail) trivial))) ?_
          refine LJ_y rfl rfl (YJ_move rfl) ?_
          refine LJ_y rfl rfl (YJ_eqb rfl rfl ubool_4) ?_
          refine LJ_y rfl rfl (YJ_move rfl) ?_
          refine LJ_bool (c := true) (by first | (rw [beq_iff_eq, decide_eq_decide]; exact hcr) | (rw [beq_iff_eq, decide_eq_false_iff_not]; exact hn)) ?_
          first | refine LJ_y rfl rfl (YJ_loadN (vs := [_, _]) rfl tyi_53 (by repeat first | exact .head _ | apply List.Mem.tail) rfl rfl) ?_ | refine LJ_y rfl rfl (YJ_loadFactN (vs := [_, _]) rfl tyi_53 (by repeat first | exact .head _ | apply List.Mem.tail) rfl rfl) ?_
          first | refine LJ_y rfl rfl (YJ_loadN (vs := [_, _]) rfl tyi_53 (by repeat first | exact .head _ | apply List.Mem.tail) rfl rfl) ?_ | refine LJ_y rfl rfl (YJ_loadFactN (vs := [_, _]) rfl tyi_53 (by repeat first | exact .head _ | apply List.Mem.tail) rfl rfl) ?_
          first | refine LJ_y rfl rfl (YJ_loadN (vs := [_, _]) rfl tyi_53 (by repeat first | exact .head _ | apply List.Mem.tail) rfl rfl) ?_ | refine LJ_y rfl rfl (YJ_loadFactN (vs := [_, _]) rfl tyi_53 (by repeat first | exact .head _ | apply List.Mem.tail) rfl rfl) ?_
          first | refine LJ_y rfl rfl (YJ_loadN (vs := [_, _]) rfl tyi_53 (by repeat first | exact .head _ | apply List.Mem.tail) rfl rfl) ?_ | refine LJ_y rfl rfl (YJ_loadFactN (vs := [_, _]) rfl tyi_53 (by repeat first | exact .head _ | apply List.Mem.tail) rfl rfl) ?_
          refine LJ_call0 rfl rfl rfl rfl rfl (crosses_rev_c ha he hc hd) (AllIn.sub (by first | exact trivial | exact And.intro (by repeat first | exact .head _ | apply List.Mem.tail) trivial | exact And.intro (by repeat first | exact .head _ | apply List.Mem.tail) (And.intro (by repeat first | exact .head _ | apply List.Mem.tail) trivial))) ?_
          refine LJ_y rfl rfl (YJ_move rfl) ?_
          refine LJ_y rfl rfl (YJ_eqb rfl rfl ubool_4) ?_
          refine LJ_y rfl rfl (YJ_pickT rfl rfl) ?_
          refine LJ_y rfl rfl (YJ_move rfl) ?_
          refine LJ_bool (c := true) (by first | (rw [beq_iff_eq, decide_eq_decide]; exact hcr) | (rw [beq_iff_eq, decide_eq_false_iff_not]; exact hn)) ?_
          first | refine LJ_y rfl rfl (YJ_loadN (vs := [_, _]) rfl tyi_53 (by repeat first | exact .head _ | apply List.Mem.tail) rfl rfl) ?_ | refine LJ_y rfl rfl (YJ_loadFactN (vs := [_, _]) rfl tyi_53 (by repeat first | exact .head _ | apply List.Mem.tail) rfl rfl) ?_
          first | refine LJ_y rfl rfl (YJ_loadN (vs := [_, _]) rfl tyi_53 (by repeat first | exact .head _ | apply List.Mem.tail) rfl rfl) ?_ | refine LJ_y rfl rfl (YJ_loadFactN (vs := [_, _]) rfl tyi_53 (by repeat first | exact .head _ | apply List.Mem.tail) rfl rfl) ?_
          first | refine LJ_y rfl rfl (YJ_loadN (vs := [_, _]) rfl tyi_53 (by repeat first | exact .head _ | apply List.Mem.tail) rfl rfl) ?_ | refine LJ_y rfl rfl (YJ_loadFactN (vs := [_, _]) rfl tyi_53 (by repeat first | exact .head _ | apply List.Mem.tail) rfl rfl) ?_
          first | refine LJ_y rfl rfl (YJ_loadN (vs := [_, _]) rfl tyi_53 (by repeat first | exact .head _ | apply List.Mem.tail) rfl rfl) ?_ | refine LJ_y rfl rfl (YJ_loadFactN (vs := [_, _]) rfl tyi_53 (by repeat first | exact .head _ | apply List.Mem.tail) rfl rfl) ?_
          refine LJ_call0 rfl rfl rfl rfl rfl (meets_c ha he hc hd) (AllIn.sub (by first | exact trivial | exact And.intro (by repeat first | exact .head _ | apply List.Mem.tail) trivial | exact And.intro (by repeat first | exact .head _ | apply List.Mem.tail) (And.intro (by repeat first | exact .head _ | apply List.Mem.tail) trivial))) ?_
          refine LJ_y rfl rfl (YJ_move rfl) ?_
          refine LJ_y rfl rfl (YJ_eqb rfl rfl ubool_4) ?_
          refine LJ_y rfl rfl (YJ_pickT rfl rfl) ?_
          refine LJ_y rfl rfl (YJ_move rfl) ?_
          refine LJ_bool (c := true) (by first | (rw [beq_iff_eq, decide_eq_true_iff]; simp only [Mts, *, true_or, or_true]) | (rw [beq_iff_eq, decide_eq_decide]; simp only [Mts, *, false_or])) ?_
          first | refine LJ_y rfl rfl (YJ_loadN (vs := [_, _]) rfl tyi_53 (by repeat first | exact .head _ | apply List.Mem.tail) rfl rfl) ?_ | refine LJ_y rfl rfl (YJ_loadFactN (vs := [_, _]) rfl tyi_53 (by repeat first | exact .head _ | apply List.Mem.tail) rfl rfl) ?_
          first | refine LJ_y rfl rfl (YJ_loadN (vs := [_, _]) rfl tyi_53 (by repeat first | exact .head _ | apply List.Mem.tail) rfl rfl) ?_ | refine LJ_y rfl rfl (YJ_loadFactN (vs := [_, _]) rfl tyi_53 (by repeat first | exact .head _ | apply List.Mem.tail) rfl rfl) ?_
          first | refine LJ_y rfl rfl (YJ_loadN (vs := [_, _]) rfl tyi_53 (by repeat first | exact .head _ | apply List.Mem.tail) rfl rfl) ?_ | refine LJ_y rfl rfl (YJ_loadFactN (vs := [_, _]) rfl tyi_53 (by repeat first | exact .head _ | apply List.Mem.tail) rfl rfl) ?_
          first | refine LJ_y rfl rfl (YJ_loadN (vs := [_, _]) rfl tyi_53 (by repeat first | exact .head _ | apply List.Mem.tail) rfl rfl) ?_ | refine LJ_y rfl rfl (YJ_loadFactN (vs := [_, _]) rfl tyi_53 (by repeat first | exact .head _ | apply List.Mem.tail) rfl rfl) ?_
          refine LJ_call0 rfl rfl rfl rfl rfl (meets_turn_c ha he hc hd) (AllIn.sub (by first | exact trivial | exact And.intro (by repeat first | exact .head _ | apply List.Mem.tail) trivial | exact And.intro (by repeat first | exact .head _ | apply List.Mem.tail) (And.intro (by repeat first | exact .head _ | apply List.Mem.tail) trivial))) ?_
          refine LJ_y rfl rfl (YJ_move rfl) ?_
          refine LJ_y rfl rfl (YJ_eqb rfl rfl ubool_4) ?_
          refine LJ_val (v := .bool true) (congrArg Value.bool (by first | (rw [beq_iff_eq, decide_eq_true_iff]; simp only [Mts, *, true_or, or_true]) | (rw [beq_iff_eq, decide_eq_decide]; simp only [Mts, *, false_or]))) ?_
          refine LJ_y rfl rfl (YJ_pickT rfl rfl) ?_
          refine LJ_y rfl rfl (YJ_assign rfl) ?_
          refine LJ_nil ?_
          refine QJ_then ?_
          refine CJ_ret ?_
          refine QJ_fin (.inl rfl) (μ' := []) (μr := _) (φ' := []) (res_tmp rfl rfl) (List.Perm.refl _) (fun _ h => nomatch h) ?_
          exact ⟨rfl, rfl, rfl⟩
        · try simp only [decide_eq_true_eq, decide_eq_false_iff_not, Bool.not_eq_true', Bool.not_eq_false', Bool.and_eq_true, Bool.and_eq_false_iff, beq_iff_eq, bne_iff_ne, beq_eq_false_iff_ne, bne_eq_false_iff_eq, ne_eq, decide_eq_decide] at h69
          first | refine LJ_y rfl rfl (YJ_loadN (vs := [_, _]) rfl tyi_53 (by repeat first | exact .head _ | apply List.Mem.tail) rfl rfl) ?_ | refine LJ_y rfl rfl (YJ_loadFactN (vs := [_, _]) rfl tyi_53 (by repeat first | exact .head _ | apply List.Mem.tail) rfl rfl) ?_
          first | refine LJ_y rfl rfl (YJ_loadN (vs := [_, _]) rfl tyi_53 (by repeat first | exact .head _ | apply List.Mem.tail) rfl rfl) ?_ | refine LJ_y rfl rfl (YJ_loadFactN (vs := [_, _]) rfl tyi_53 (by repeat first | exact .head _ | apply List.Mem.tail) rfl rfl) ?_
          first | refine LJ_y rfl rfl (YJ_loadN (vs := [_, _]) rfl tyi_53 (by repeat first | exact .head _ | apply List.Mem.tail) rfl rfl) ?_ | refine LJ_y rfl rfl (YJ_loadFactN (vs := [_, _]) rfl tyi_53 (by repeat first | exact .head _ | apply List.Mem.tail) rfl rfl) ?_
          refine LJ_call0 rfl rfl rfl rfl rfl (on_c hd ha he) (AllIn.sub (by first | exact trivial | exact And.intro (by repeat first | exact .head _ | apply List.Mem.tail) trivial | exact And.intro (by repeat first | exact .head _ | apply List.Mem.tail) (And.intro (by repeat first | exact .head _ | apply List.Mem.tail) trivial))) ?_
          refine LJ_y rfl rfl (YJ_pickF rfl rfl) ?_
          refine LJ_y rfl rfl (YJ_assign rfl) ?_
          refine LJ_nil ?_
          refine QJ_then ?_
          refine CJ_seq ?_
          refine CJ_reg ?_
          first | refine LJ_y rfl rfl (YJ_loadN (vs := [_, _]) rfl tyi_53 (by repeat first | exact .head _ | apply List.Mem.tail) rfl rfl) ?_ | refine LJ_y rfl rfl (YJ_loadFactN (vs := [_, _]) rfl tyi_53 (by repeat first | exact .head _ | apply List.Mem.tail) rfl rfl) ?_
          first | refine LJ_y rfl rfl (YJ_loadN (vs := [_, _]) rfl tyi_53 (by repeat first | exact .head _ | apply List.Mem.tail) rfl rfl) ?_ | refine LJ_y rfl rfl (YJ_loadFactN (vs := [_, _]) rfl tyi_53 (by repeat first | exact .head _ | apply List.Mem.tail) rfl rfl) ?_
          first | refine LJ_y rfl rfl (YJ_loadN (vs := [_, _]) rfl tyi_53 (by repeat first | exact .head _ | apply List.Mem.tail) rfl rfl) ?_ | refine LJ_y rfl rfl (YJ_loadFactN (vs := [_, _]) rfl tyi_53 (by repeat first | exact .head _ | apply List.Mem.tail) rfl rfl) ?_
          first | refine LJ_y rfl rfl (YJ_loadN (vs := [_, _]) rfl tyi_53 (by repeat first | exact .head _ | apply List.Mem.tail) rfl rfl) ?_ | refine LJ_y rfl rfl (YJ_loadFactN (vs := [_, _]) rfl tyi_53 (by repeat first | exact .head _ | apply List.Mem.tail) rfl rfl) ?_
          refine LJ_call0 rfl rfl rfl rfl rfl (crosses_c ha he hc hd) (AllIn.sub (by first | exact trivial | exact And.intro (by repeat first | exact .head _ | apply List.Mem.tail) trivial | exact And.intro (by repeat first | exact .head _ | apply List.Mem.tail) (And.intro (by repeat first | exact .head _ | apply List.Mem.tail) trivial))) ?_
          refine LJ_y rfl rfl (YJ_move rfl) ?_
          refine LJ_y rfl rfl (YJ_eqb rfl rfl ubool_4) ?_
          refine LJ_y rfl rfl (YJ_move rfl) ?_
          refine LJ_bool (c := true) (by first | (rw [beq_iff_eq, decide_eq_decide]; exact hcr) | (rw [beq_iff_eq, decide_eq_false_iff_not]; exact hn)) ?_
          first | refine LJ_y rfl rfl (YJ_loadN (vs := [_, _]) rfl tyi_53 (by repeat first | exact .head _ | apply List.Mem.tail) rfl rfl) ?_ | refine LJ_y rfl rfl (YJ_loadFactN (vs := [_, _]) rfl tyi_53 (by repeat first | exact .head _ | apply List.Mem.tail) rfl rfl) ?_
          first | refine LJ_y rfl rfl (YJ_loadN (vs := [_, _]) rfl tyi_53 (by repeat first | exact .head _ | apply List.Mem.tail) rfl rfl) ?_ | refine LJ_y rfl rfl (YJ_loadFactN (vs := [_, _]) rfl tyi_53 (by repeat first | exact .head _ | apply List.Mem.tail) rfl rfl) ?_
          first | refine LJ_y rfl rfl (YJ_loadN (vs := [_, _]) rfl tyi_53 (by repeat first | exact .head _ | apply List.Mem.tail) rfl rfl) ?_ | refine LJ_y rfl rfl (YJ_loadFactN (vs := [_, _]) rfl tyi_53 (by repeat first | exact .head _ | apply List.Mem.tail) rfl rfl) ?_
          first | refine LJ_y rfl rfl (YJ_loadN (vs := [_, _]) rfl tyi_53 (by repeat first | exact .head _ | apply List.Mem.tail) rfl rfl) ?_ | refine LJ_y rfl rfl (YJ_loadFactN (vs := [_, _]) rfl tyi_53 (by repeat first | exact .head _ | apply List.Mem.tail) rfl rfl) ?_
          refine LJ_call0 rfl rfl rfl rfl rfl (crosses_rev_c ha he hc hd) (AllIn.sub (by first | exact trivial | exact And.intro (by repeat first | exact .head _ | apply List.Mem.tail) trivial | exact And.intro (by repeat first | exact .head _ | apply List.Mem.tail) (And.intro (by repeat first | exact .head _ | apply List.Mem.tail) trivial))) ?_
          refine LJ_y rfl rfl (YJ_move rfl) ?_
          refine LJ_y rfl rfl (YJ_eqb rfl rfl ubool_4) ?_
          refine LJ_y rfl rfl (YJ_pickT rfl rfl) ?_
          refine LJ_y rfl rfl (YJ_move rfl) ?_
          refine LJ_bool (c := true) (by first | (rw [beq_iff_eq, decide_eq_decide]; exact hcr) | (rw [beq_iff_eq, decide_eq_false_iff_not]; exact hn)) ?_
          first | refine LJ_y rfl rfl (YJ_loadN (vs := [_, _]) rfl tyi_53 (by repeat first | exact .head _ | apply List.Mem.tail) rfl rfl) ?_ | refine LJ_y rfl rfl (YJ_loadFactN (vs := [_, _]) rfl tyi_53 (by repeat first | exact .head _ | apply List.Mem.tail) rfl rfl) ?_
          first | refine LJ_y rfl rfl (YJ_loadN (vs := [_, _]) rfl tyi_53 (by repeat first | exact .head _ | apply List.Mem.tail) rfl rfl) ?_ | refine LJ_y rfl rfl (YJ_loadFactN (vs := [_, _]) rfl tyi_53 (by repeat first | exact .head _ | apply List.Mem.tail) rfl rfl) ?_
          first | refine LJ_y rfl rfl (YJ_loadN (vs := [_, _]) rfl tyi_53 (by repeat first | exact .head _ | apply List.Mem.tail) rfl rfl) ?_ | refine LJ_y rfl rfl (YJ_loadFactN (vs := [_, _]) rfl tyi_53 (by repeat first | exact .head _ | apply List.Mem.tail) rfl rfl) ?_
          first | refine LJ_y rfl rfl (YJ_loadN (vs := [_, _]) rfl tyi_53 (by repeat first | exact .head _ | apply List.Mem.tail) rfl rfl) ?_ | refine LJ_y rfl rfl (YJ_loadFactN (vs := [_, _]) rfl tyi_53 (by repeat first | exact .head _ | apply List.Mem.tail) rfl rfl) ?_
          refine LJ_call0 rfl rfl rfl rfl rfl (meets_c ha he hc hd) (AllIn.sub (by first | exact trivial | exact And.intro (by repeat first | exact .head _ | apply List.Mem.tail) trivial | exact And.intro (by repeat first | exact .head _ | apply List.Mem.tail) (And.intro (by repeat first | exact .head _ | apply List.Mem.tail) trivial))) ?_
          refine LJ_y rfl rfl (YJ_move rfl) ?_
          refine LJ_y rfl rfl (YJ_eqb rfl rfl ubool_4) ?_
          refine LJ_y rfl rfl (YJ_pickT rfl rfl) ?_
          refine LJ_y rfl rfl (YJ_move rfl) ?_
          refine LJ_bool (c := true) (by first | (rw [beq_iff_eq, decide_eq_true_iff]; simp only [Mts, *, true_or, or_true]) | (rw [beq_iff_eq, decide_eq_decide]; simp only [Mts, *, false_or])) ?_
          first | refine LJ_y rfl rfl (YJ_loadN (vs := [_, _]) rfl tyi_53 (by repeat first | exact .head _ | apply List.Mem.tail) rfl rfl) ?_ | refine LJ_y rfl rfl (YJ_loadFactN (vs := [_, _]) rfl tyi_53 (by repeat first | exact .head _ | apply List.Mem.tail) rfl rfl) ?_
          first | refine LJ_y rfl rfl (YJ_loadN (vs := [_, _]) rfl tyi_53 (by repeat first | exact .head _ | apply List.Mem.tail) rfl rfl) ?_ | refine LJ_y rfl rfl (YJ_loadFactN (vs := [_, _]) rfl tyi_53 (by repeat first | exact .head _ | apply List.Mem.tail) rfl rfl) ?_
          first | refine LJ_y rfl rfl (YJ_loadN (vs := [_, _]) rfl tyi_53 (by repeat first | exact .head _ | apply List.Mem.tail) rfl rfl) ?_ | refine LJ_y rfl rfl (YJ_loadFactN (vs := [_, _]) rfl tyi_53 (by repeat first | exact .head _ | apply List.Mem.tail) rfl rfl) ?_
          first | refine LJ_y rfl rfl (YJ_loadN (vs := [_, _]) rfl tyi_53 (by repeat first | exact .head _ | apply List.Mem.tail) rfl rfl) ?_ | refine LJ_y rfl rfl (YJ_loadFactN (vs := [_, _]) rfl tyi_53 (by repeat first | exact .head _ | apply List.Mem.tail) rfl rfl) ?_
          refine LJ_call0 rfl rfl rfl rfl rfl (meets_turn_c ha he hc hd) (AllIn.sub (by first | exact trivial | exact And.intro (by repeat first | exact .head _ | apply List.Mem.tail) trivial | exact And.intro (by repeat first | exact .head _ | apply List.Mem.tail) (And.intro (by repeat first | exact .head _ | apply List.Mem.tail) trivial))) ?_
          refine LJ_y rfl rfl (YJ_move rfl) ?_
          refine LJ_y rfl rfl (YJ_eqb rfl rfl ubool_4) ?_
          refine LJ_val (v := .bool true) (congrArg Value.bool (by first | (rw [beq_iff_eq, decide_eq_true_iff]; simp only [Mts, *, true_or, or_true]) | (rw [beq_iff_eq, decide_eq_decide]; simp only [Mts, *, false_or]))) ?_
          refine LJ_y rfl rfl (YJ_pickT rfl rfl) ?_
          refine LJ_y rfl rfl (YJ_assign rfl) ?_
          refine LJ_nil ?_
          refine QJ_then ?_
          refine CJ_ret ?_
          refine QJ_fin (.inl rfl) (μ' := []) (μr := _) (φ' := []) (res_tmp rfl rfl) (List.Perm.refl _) (fun _ h => nomatch h) ?_
          exact ⟨rfl, rfl, rfl⟩

end Go.Proofs.Ytggbdfnoehienaa
