/- The walk of the statement PredTriangles. -/
import Derived.Test.YtggbdfnoehienaaL7
import Derived.Test.YtggbdfnoehienaaBui
set_option linter.unusedSimpArgs false
set_option linter.unusedVariables false
namespace Go.Proofs.Ytggbdfnoehienaa
open Go.RowKit

theorem ent_10 : Enter Try.prog 10 = true := by kernel_rfl
theorem arrt_60 : arrt Try.prog 60 = some (3, 53, 2) := by kernel_rfl


theorem psum3' {x y z : Int} {A B C : Option Addr} {k l m : Nat} : psum [(x, A, k), (y, B, l), (z, C, m)] = x + y + z := by
  simp only [psum]; omega
theorem min3_eq {x y z : Int} (h : x = y) : min (min x z) 0 = min (min y z) 0 := by rw [h]


set_option maxRecDepth 100000 in
set_option maxHeartbeats 16000000 in
theorem ptriangles_c {a1 a2 e1 e2 c1 c2 p1 p2 : Int} : Tri Try.prog 10 [.agg #[.int .i64 a1, .int .i64 a2, .int .i64 e1, .int .i64 e2, .int .i64 c1, .int .i64 c2], ptv p1 p2] [] [] (Ret0 (.bool true)) := by
  refine Tri_of (N := 136) Try.func10 rfl ent_10 rfl rfl ?_
  intro w0 S0 T0
  show CJ _ _ _ [(0, _), (1, _)] _ _
  have ha := tm_p a1 a2
  have he := tm_p e1 e2
  have hc := tm_p c1 c2
  have hp := tm_p p1 p2
  refine CJ_seq ?_
  refine CJ_reg ?_
  refine LJ_box (cs := #[_, _, _, _, _, _]) rfl rfl rfl rfl ?_
  intro b1
  refine LJ_box (cs := #[_, _]) rfl rfl rfl rfl ?_
  intro b2
  refine LJ_y rfl rfl (YJ_assign rfl) ?_
  refine LJ_nil ?_
  refine QJ_then ?_
  refine CJ_seq ?_
  refine CJ_seq ?_
  refine CJ_reg ?_
  refine LJ_call0 rfl rfl rfl rfl rfl pfit_c (AllIn.sub (by first | exact trivial | exact And.intro (by repeat first | exact .head _ | apply List.Mem.tail) trivial | exact And.intro (by repeat first | exact .head _ | apply List.Mem.tail) (And.intro (by repeat first | exact .head _ | apply List.Mem.tail) trivial))) ?_
  refine LJ_y rfl rfl (YJ_not rfl) ?_
  refine LJ_nil ?_
  refine QJ_then ?_
  refine CJ_condF rfl ?_
  refine CJ_skip ?_
  refine QJ_then ?_
  refine CJ_seq ?_
  refine CJ_regDA mix (by kernel_rfl) (fun _ _ _ _ _ h => h) _ _ (fun _ h => h) (fun _ h => h) [⟨9, 5, 53, #[.int .i64 0, .int .i64 0]⟩, ⟨10, 6, 53, #[.int .i64 0, .int .i64 0]⟩, ⟨11, 7, 53, #[.int .i64 0, .int .i64 0]⟩] 12 rfl (And.intro ⟨_, _, _, _, rfl, zer_53, rfl⟩ (And.intro ⟨_, _, _, _, rfl, zer_53, rfl⟩ (And.intro ⟨_, _, _, _, rfl, zer_53, rfl⟩ (trivial)))) rfl rfl ?_
  refine AA_y 0 rfl (by kernel_rfl) rfl rfl rfl (YJ_ixArr rfl rfl arrt_60 (by omega) (by omega) rfl) ?_
  first | refine AA_y 1 rfl (by kernel_rfl) rfl rfl rfl (YJ_loadN (vs := [_, _]) rfl tyi_53 (by repeat first | exact .head _ | apply List.Mem.tail) rfl rfl) ?_ | refine AA_y 1 rfl (by kernel_rfl) rfl rfl rfl (YJ_loadFactN (vs := [_, _]) rfl tyi_53 (by repeat first | exact .head _ | apply List.Mem.tail) rfl rfl) ?_
  refine AA_y 3 rfl (by kernel_rfl) rfl rfl rfl (YJ_ixArr rfl rfl arrt_60 (by omega) (by omega) rfl) ?_
  first | refine AA_y 4 rfl (by kernel_rfl) rfl rfl rfl (YJ_loadN (vs := [_, _]) rfl tyi_53 (by repeat first | exact .head _ | apply List.Mem.tail) rfl rfl) ?_ | refine AA_y 4 rfl (by kernel_rfl) rfl rfl rfl (YJ_loadFactN (vs := [_, _]) rfl tyi_53 (by repeat first | exact .head _ | apply List.Mem.tail) rfl rfl) ?_
  refine AA_y 6 rfl (by kernel_rfl) rfl rfl rfl (YJ_ixArr rfl rfl arrt_60 (by omega) (by omega) rfl) ?_
  first | refine AA_y 7 rfl (by kernel_rfl) rfl rfl rfl (YJ_loadN (vs := [_, _]) rfl tyi_53 (by repeat first | exact .head _ | apply List.Mem.tail) rfl rfl) ?_ | refine AA_y 7 rfl (by kernel_rfl) rfl rfl rfl (YJ_loadFactN (vs := [_, _]) rfl tyi_53 (by repeat first | exact .head _ | apply List.Mem.tail) rfl rfl) ?_
  refine AA_call0 2 rfl (by kernel_rfl) rfl rfl rfl rfl rfl rfl rfl tame_c (AllIn.sub (by first | exact trivial | exact And.intro (by repeat first | exact .head _ | apply List.Mem.tail) trivial | exact And.intro (by repeat first | exact .head _ | apply List.Mem.tail) (And.intro (by repeat first | exact .head _ | apply List.Mem.tail) trivial))) ?_
  refine AA_call0 5 rfl (by kernel_rfl) rfl rfl rfl rfl rfl rfl rfl tame_c (AllIn.sub (by first | exact trivial | exact And.intro (by repeat first | exact .head _ | apply List.Mem.tail) trivial | exact And.intro (by repeat first | exact .head _ | apply List.Mem.tail) (And.intro (by repeat first | exact .head _ | apply List.Mem.tail) trivial))) ?_
  refine AA_call0 8 rfl (by kernel_rfl) rfl rfl rfl rfl rfl rfl rfl tame_c (AllIn.sub (by first | exact trivial | exact And.intro (by repeat first | exact .head _ | apply List.Mem.tail) trivial | exact And.intro (by repeat first | exact .head _ | apply List.Mem.tail) (And.intro (by repeat first | exact .head _ | apply List.Mem.tail) trivial))) ?_
  refine AA_end (by kernel_rfl) rfl ?_
  intro bs hbs
  obtain ⟨b3, b4, b5, rfl⟩ := len_3 hbs
  clear hbs
  show AJ _ _ _ _ _ _ _ ((5, .pointer (some ⟨b3, 0, none⟩)) :: (6, .pointer (some ⟨b4, 0, none⟩)) :: (7, .pointer (some ⟨b5, 0, none⟩)) :: _) (cellsR b3 _ _ :: cellsR b4 _ _ :: cellsR b5 _ _ :: _) _
  refine AJ_store (cs' := #[_, _]) (μ' := [_, _, _, _, _]) 12 0 rfl (by kernel_rfl) rfl rfl rfl rfl tyi_53 rfl (Nat.le_of_ble_eq_true rfl) rfl rfl rfl (fun _ => AllIn.sub (And.intro (by repeat first | exact .head _ | apply List.Mem.tail) (And.intro (by repeat first | exact .head _ | apply List.Mem.tail) (trivial)))) ?_
  refine AJ_store (cs' := #[_, _]) (μ' := [_, _, _, _, _]) 13 1 rfl (by kernel_rfl) rfl rfl rfl rfl tyi_53 rfl (Nat.le_of_ble_eq_true rfl) rfl rfl rfl (fun _ => AllIn.sub (And.intro (by repeat first | exact .head _ | apply List.Mem.tail) (And.intro (by repeat first | exact .head _ | apply List.Mem.tail) (trivial)))) ?_
  refine AJ_store (cs' := #[_, _]) (μ' := [_, _, _, _, _]) 14 2 rfl (by kernel_rfl) rfl rfl rfl rfl tyi_53 rfl (Nat.le_of_ble_eq_true rfl) rfl rfl rfl (fun _ => AllIn.sub (And.intro (by repeat first | exact .head _ | apply List.Mem.tail) (And.intro (by repeat first | exact .head _ | apply List.Mem.tail) (trivial)))) ?_
  refine AJ_done (by kernel_rfl) ?_
  refine QJ_then ?_
  refine CJ_seq ?_
  refine CJ_reg ?_
  first | refine LJ_y rfl rfl (YJ_loadN (vs := [_, _]) rfl tyi_53 (by repeat first | exact .head _ | apply List.Mem.tail) rfl rfl) ?_ | refine LJ_y rfl rfl (YJ_loadFactN (vs := [_, _]) rfl tyi_53 (by repeat first | exact .head _ | apply List.Mem.tail) rfl rfl) ?_
  refine LJ_call0 rfl rfl rfl rfl rfl tame_c (AllIn.sub (by first | exact trivial | exact And.intro (by repeat first | exact .head _ | apply List.Mem.tail) trivial | exact And.intro (by repeat first | exact .head _ | apply List.Mem.tail) (And.intro (by repeat first | exact .head _ | apply List.Mem.tail) trivial))) ?_
  refine LJ_store (cs' := #[_, _]) (μ' := [_, _, _, _, _]) 3 rfl rfl rfl rfl tyi_53 rfl (Nat.le_of_ble_eq_true rfl) rfl rfl rfl ?_
  refine LJ_nil ?_
  refine QJ_then ?_
  refine CJ_seq ?_
  refine CJ_seq ?_
  refine CJ_reg ?_
  first | refine LJ_y rfl rfl (YJ_loadN (vs := [_, _]) rfl tyi_53 (by repeat first | exact .head _ | apply List.Mem.tail) rfl rfl) ?_ | refine LJ_y rfl rfl (YJ_loadFactN (vs := [_, _]) rfl tyi_53 (by repeat first | exact .head _ | apply List.Mem.tail) rfl rfl) ?_
  first | refine LJ_y rfl rfl (YJ_loadN (vs := [_, _]) rfl tyi_53 (by repeat first | exact .head _ | apply List.Mem.tail) rfl rfl) ?_ | refine LJ_y rfl rfl (YJ_loadFactN (vs := [_, _]) rfl tyi_53 (by repeat first | exact .head _ | apply List.Mem.tail) rfl rfl) ?_
  first | refine LJ_y rfl rfl (YJ_loadN (vs := [_, _]) rfl tyi_53 (by repeat first | exact .head _ | apply List.Mem.tail) rfl rfl) ?_ | refine LJ_y rfl rfl (YJ_loadFactN (vs := [_, _]) rfl tyi_53 (by repeat first | exact .head _ | apply List.Mem.tail) rfl rfl) ?_
  refine LJ_call0 rfl rfl rfl rfl rfl (orient_c ha he hc) (AllIn.sub (by first | exact trivial | exact And.intro (by repeat first | exact .head _ | apply List.Mem.tail) trivial | exact And.intro (by repeat first | exact .head _ | apply List.Mem.tail) (And.intro (by repeat first | exact .head _ | apply List.Mem.tail) trivial))) ?_
  refine LJ_nil ?_
  refine QJ_then ?_
  refine CJ_block ?_
  refine CJ_seq ?_
  refine CJ_reg ?_
  refine LJ_y rfl rfl (YJ_bin rfl rfl rfl) ?_
  refine LJ_y rfl rfl (YJ_assign rfl) ?_
  refine LJ_nil ?_
  refine QJ_then ?_
  refine CJ_cond rfl (fun h31 => ?_) (fun h31 => ?_)
  · try simp only [decide_eq_true_eq, decide_eq_false_iff_not, Bool.not_eq_true', Bool.not_eq_false', Bool.and_eq_true, Bool.and_eq_false_iff, beq_iff_eq, bne_iff_ne, beq_eq_false_iff_ne, bne_eq_false_iff_eq, ne_eq, decide_eq_decide] at h31
    refine CJ_seq ?_
    refine CJ_reg ?_
    refine LJ_y rfl rfl (YJ_assign rfl) ?_
    refine LJ_nil ?_
    refine QJ_then ?_
    refine CJ_ret ?_
    refine QJ_in_ret ?_
    refine QJ_then_ret ?_
    refine QJ_fin (.inl rfl) (μ' := []) (μr := _) (φ' := []) (res_tmp rfl rfl) (List.Perm.refl _) (fun _ h => nomatch h) ?_
    exact ⟨rfl, rfl, rfl⟩
  · try simp only [decide_eq_true_eq, decide_eq_false_iff_not, Bool.not_eq_true', Bool.not_eq_false', Bool.and_eq_true, Bool.and_eq_false_iff, beq_iff_eq, bne_iff_ne, beq_eq_false_iff_ne, bne_eq_false_iff_eq, ne_eq, decide_eq_decide] at h31
    refine CJ_seq ?_
    refine CJ_reg ?_
    refine LJ_y rfl rfl (YJ_bin rfl rfl rfl) ?_
    refine LJ_y rfl rfl (YJ_assign rfl) ?_
    refine LJ_nil ?_
    refine QJ_then ?_
    refine CJ_cond rfl (fun h33 => ?_) (fun h33 => ?_)
    · try simp only [decide_eq_true_eq, decide_eq_false_iff_not, Bool.not_eq_true', Bool.not_eq_false', Bool.and_eq_true, Bool.and_eq_false_iff, beq_iff_eq, bne_iff_ne, beq_eq_false_iff_ne, bne_eq_false_iff_eq, ne_eq, decide_eq_decide] at h33
      have hD : 0 < (A2 (tm a1) (tm a2) (tm c1) (tm c2) (tm e1) (tm e2)) := by
        have := sgn_cases (A2 (tm a1) (tm a2) (tm e1) (tm e2) (tm c1) (tm c2))
        rw [A2_flip]; omega
      have hin := tri_in (p1 := tm p1) (p2 := tm p2) hD
      have hci := tri_circle (p1 := tm p1) (p2 := tm p2) hD
      refine CJ_reg ?_
      first | refine LJ_y rfl rfl (YJ_loadN (vs := [_, _]) rfl tyi_53 (by repeat first | exact .head _ | apply List.Mem.tail) rfl rfl) ?_ | refine LJ_y rfl rfl (YJ_loadFactN (vs := [_, _]) rfl tyi_53 (by repeat first | exact .head _ | apply List.Mem.tail) rfl rfl) ?_
      first | refine LJ_y rfl rfl (YJ_loadN (vs := [_, _]) rfl tyi_53 (by repeat first | exact .head _ | apply List.Mem.tail) rfl rfl) ?_ | refine LJ_y rfl rfl (YJ_loadFactN (vs := [_, _]) rfl tyi_53 (by repeat first | exact .head _ | apply List.Mem.tail) rfl rfl) ?_
      refine LJ_store (cs' := #[_, _]) (μ' := [_, _, _, _, _]) 1 rfl rfl rfl rfl tyi_53 rfl (Nat.le_of_ble_eq_true rfl) rfl rfl rfl ?_
      refine LJ_store (cs' := #[_, _]) (μ' := [_, _, _, _, _]) 2 rfl rfl rfl rfl tyi_53 rfl (Nat.le_of_ble_eq_true rfl) rfl rfl rfl ?_
      refine LJ_nil ?_
      refine QJ_in_normal ?_
      refine QJ_then ?_
      refine CJ_seq ?_
      refine CJ_regD mix (by kernel_rfl) (fun _ _ _ _ _ h => h) _ _ (fun _ h => h) (fun _ h => h) ?_
      first | refine AJ_y 0 rfl (by kernel_rfl) (by kernel_rfl) rfl rfl (YJ_loadN (vs := [_, _]) rfl tyi_53 (by repeat first | exact .head _ | apply List.Mem.tail) rfl rfl) ?_ | refine AJ_y 0 rfl (by kernel_rfl) (by kernel_rfl) rfl rfl (YJ_loadFactN (vs := [_, _]) rfl tyi_53 (by repeat first | exact .head _ | apply List.Mem.tail) rfl rfl) ?_
      first | refine AJ_y 1 rfl (by kernel_rfl) (by kernel_rfl) rfl rfl (YJ_loadN (vs := [_, _]) rfl tyi_53 (by repeat first | exact .head _ | apply List.Mem.tail) rfl rfl) ?_ | refine AJ_y 1 rfl (by kernel_rfl) (by kernel_rfl) rfl rfl (YJ_loadFactN (vs := [_, _]) rfl tyi_53 (by repeat first | exact .head _ | apply List.Mem.tail) rfl rfl) ?_
      first | refine AJ_y 2 rfl (by kernel_rfl) (by kernel_rfl) rfl rfl (YJ_loadN (vs := [_, _]) rfl tyi_53 (by repeat first | exact .head _ | apply List.Mem.tail) rfl rfl) ?_ | refine AJ_y 2 rfl (by kernel_rfl) (by kernel_rfl) rfl rfl (YJ_loadFactN (vs := [_, _]) rfl tyi_53 (by repeat first | exact .head _ | apply List.Mem.tail) rfl rfl) ?_
      first | refine AJ_y 4 rfl (by kernel_rfl) (by kernel_rfl) rfl rfl (YJ_loadN (vs := [_, _]) rfl tyi_53 (by repeat first | exact .head _ | apply List.Mem.tail) rfl rfl) ?_ | refine AJ_y 4 rfl (by kernel_rfl) (by kernel_rfl) rfl rfl (YJ_loadFactN (vs := [_, _]) rfl tyi_53 (by repeat first | exact .head _ | apply List.Mem.tail) rfl rfl) ?_
      first | refine AJ_y 5 rfl (by kernel_rfl) (by kernel_rfl) rfl rfl (YJ_loadN (vs := [_, _]) rfl tyi_53 (by repeat first | exact .head _ | apply List.Mem.tail) rfl rfl) ?_ | refine AJ_y 5 rfl (by kernel_rfl) (by kernel_rfl) rfl rfl (YJ_loadFactN (vs := [_, _]) rfl tyi_53 (by repeat first | exact .head _ | apply List.Mem.tail) rfl rfl) ?_
      first | refine AJ_y 6 rfl (by kernel_rfl) (by kernel_rfl) rfl rfl (YJ_loadN (vs := [_, _]) rfl tyi_53 (by repeat first | exact .head _ | apply List.Mem.tail) rfl rfl) ?_ | refine AJ_y 6 rfl (by kernel_rfl) (by kernel_rfl) rfl rfl (YJ_loadFactN (vs := [_, _]) rfl tyi_53 (by repeat first | exact .head _ | apply List.Mem.tail) rfl rfl) ?_
      first | refine AJ_y 8 rfl (by kernel_rfl) (by kernel_rfl) rfl rfl (YJ_loadN (vs := [_, _]) rfl tyi_53 (by repeat first | exact .head _ | apply List.Mem.tail) rfl rfl) ?_ | refine AJ_y 8 rfl (by kernel_rfl) (by kernel_rfl) rfl rfl (YJ_loadFactN (vs := [_, _]) rfl tyi_53 (by repeat first | exact .head _ | apply List.Mem.tail) rfl rfl) ?_
      first | refine AJ_y 9 rfl (by kernel_rfl) (by kernel_rfl) rfl rfl (YJ_loadN (vs := [_, _]) rfl tyi_53 (by repeat first | exact .head _ | apply List.Mem.tail) rfl rfl) ?_ | refine AJ_y 9 rfl (by kernel_rfl) (by kernel_rfl) rfl rfl (YJ_loadFactN (vs := [_, _]) rfl tyi_53 (by repeat first | exact .head _ | apply List.Mem.tail) rfl rfl) ?_
      first | refine AJ_y 10 rfl (by kernel_rfl) (by kernel_rfl) rfl rfl (YJ_loadN (vs := [_, _]) rfl tyi_53 (by repeat first | exact .head _ | apply List.Mem.tail) rfl rfl) ?_ | refine AJ_y 10 rfl (by kernel_rfl) (by kernel_rfl) rfl rfl (YJ_loadFactN (vs := [_, _]) rfl tyi_53 (by repeat first | exact .head _ | apply List.Mem.tail) rfl rfl) ?_
      refine AJ_call0 3 rfl (by kernel_rfl) rfl rfl rfl rfl rfl (orient_c ha hc hp) (AllIn.sub (by first | exact trivial | exact And.intro (by repeat first | exact .head _ | apply List.Mem.tail) trivial | exact And.intro (by repeat first | exact .head _ | apply List.Mem.tail) (And.intro (by repeat first | exact .head _ | apply List.Mem.tail) trivial))) ?_
      refine AJ_call0 7 rfl (by kernel_rfl) rfl rfl rfl rfl rfl (orient_c hc he hp) (AllIn.sub (by first | exact trivial | exact And.intro (by repeat first | exact .head _ | apply List.Mem.tail) trivial | exact And.intro (by repeat first | exact .head _ | apply List.Mem.tail) (And.intro (by repeat first | exact .head _ | apply List.Mem.tail) trivial))) ?_
      refine AJ_call0 11 rfl (by kernel_rfl) rfl rfl rfl rfl rfl (orient_c he ha hp) (AllIn.sub (by first | exact trivial | exact And.intro (by repeat first | exact .head _ | apply List.Mem.tail) trivial | exact And.intro (by repeat first | exact .head _ | apply List.Mem.tail) (And.intro (by repeat first | exact .head _ | apply List.Mem.tail) trivial))) ?_
      refine AJ_y 12 rfl (by kernel_rfl) (by kernel_rfl) rfl rfl (YJ_assign rfl) ?_
      refine AJ_y 13 rfl (by kernel_rfl) (by kernel_rfl) rfl rfl (YJ_assign rfl) ?_
      refine AJ_y 14 rfl (by kernel_rfl) (by kernel_rfl) rfl rfl (YJ_assign rfl) ?_
      refine AJ_done (by kernel_rfl) ?_
      refine QJ_then ?_
      refine CJ_seq ?_
      refine CJ_reg ?_
      refine LJ_y rfl rfl (YJ_move rfl) ?_
      refine LJ_y rfl rfl (YJ_move rfl) ?_
      refine LJ_y rfl rfl (YJ_move rfl) ?_
      refine LJ_y rfl rfl (YJ_min3 rfl rfl rfl) ?_
      refine LJ_y rfl rfl (YJ_bin rfl rfl rfl) ?_
      refine LJ_y rfl rfl (YJ_assign rfl) ?_
      refine LJ_nil ?_
      refine QJ_then ?_
      refine CJ_seq ?_
      refine CJ_regDA mix (by kernel_rfl) (fun _ _ _ _ _ h => h) _ _ (fun _ h => h) (fun _ h => h) [⟨14, 12, 29, #[.bool false, .slice none 0 0]⟩] 15 rfl (And.intro ⟨_, _, _, _, rfl, zer_29, rfl⟩ (trivial)) rfl rfl ?_
      first | refine AA_y 0 rfl (by kernel_rfl) rfl rfl rfl (YJ_loadN (vs := [_, _]) rfl tyi_53 (by repeat first | exact .head _ | apply List.Mem.tail) rfl rfl) ?_ | refine AA_y 0 rfl (by kernel_rfl) rfl rfl rfl (YJ_loadFactN (vs := [_, _]) rfl tyi_53 (by repeat first | exact .head _ | apply List.Mem.tail) rfl rfl) ?_
      first | refine AA_y 1 rfl (by kernel_rfl) rfl rfl rfl (YJ_loadN (vs := [_, _]) rfl tyi_53 (by repeat first | exact .head _ | apply List.Mem.tail) rfl rfl) ?_ | refine AA_y 1 rfl (by kernel_rfl) rfl rfl rfl (YJ_loadFactN (vs := [_, _]) rfl tyi_53 (by repeat first | exact .head _ | apply List.Mem.tail) rfl rfl) ?_
      first | refine AA_y 2 rfl (by kernel_rfl) rfl rfl rfl (YJ_loadN (vs := [_, _]) rfl tyi_53 (by repeat first | exact .head _ | apply List.Mem.tail) rfl rfl) ?_ | refine AA_y 2 rfl (by kernel_rfl) rfl rfl rfl (YJ_loadFactN (vs := [_, _]) rfl tyi_53 (by repeat first | exact .head _ | apply List.Mem.tail) rfl rfl) ?_
      first | refine AA_y 4 rfl (by kernel_rfl) rfl rfl rfl (YJ_loadN (vs := [_, _]) rfl tyi_53 (by repeat first | exact .head _ | apply List.Mem.tail) rfl rfl) ?_ | refine AA_y 4 rfl (by kernel_rfl) rfl rfl rfl (YJ_loadFactN (vs := [_, _]) rfl tyi_53 (by repeat first | exact .head _ | apply List.Mem.tail) rfl rfl) ?_
      first | refine AA_y 5 rfl (by kernel_rfl) rfl rfl rfl (YJ_loadN (vs := [_, _]) rfl tyi_53 (by repeat first | exact .head _ | apply List.Mem.tail) rfl rfl) ?_ | refine AA_y 5 rfl (by kernel_rfl) rfl rfl rfl (YJ_loadFactN (vs := [_, _]) rfl tyi_53 (by repeat first | exact .head _ | apply List.Mem.tail) rfl rfl) ?_
      first | refine AA_y 6 rfl (by kernel_rfl) rfl rfl rfl (YJ_loadN (vs := [_, _]) rfl tyi_53 (by repeat first | exact .head _ | apply List.Mem.tail) rfl rfl) ?_ | refine AA_y 6 rfl (by kernel_rfl) rfl rfl rfl (YJ_loadFactN (vs := [_, _]) rfl tyi_53 (by repeat first | exact .head _ | apply List.Mem.tail) rfl rfl) ?_
      first | refine AA_y 8 rfl (by kernel_rfl) rfl rfl rfl (YJ_loadN (vs := [_, _]) rfl tyi_53 (by repeat first | exact .head _ | apply List.Mem.tail) rfl rfl) ?_ | refine AA_y 8 rfl (by kernel_rfl) rfl rfl rfl (YJ_loadFactN (vs := [_, _]) rfl tyi_53 (by repeat first | exact .head _ | apply List.Mem.tail) rfl rfl) ?_
      first | refine AA_y 9 rfl (by kernel_rfl) rfl rfl rfl (YJ_loadN (vs := [_, _]) rfl tyi_53 (by repeat first | exact .head _ | apply List.Mem.tail) rfl rfl) ?_ | refine AA_y 9 rfl (by kernel_rfl) rfl rfl rfl (YJ_loadFactN (vs := [_, _]) rfl tyi_53 (by repeat first | exact .head _ | apply List.Mem.tail) rfl rfl) ?_
      first | refine AA_y 10 rfl (by kernel_rfl) rfl rfl rfl (YJ_loadN (vs := [_, _]) rfl tyi_53 (by repeat first | exact .head _ | apply List.Mem.tail) rfl rfl) ?_ | refine AA_y 10 rfl (by kernel_rfl) rfl rfl rfl (YJ_loadFactN (vs := [_, _]) rfl tyi_53 (by repeat first | exact .head _ | apply List.Mem.tail) rfl rfl) ?_
      refine AA_callX 3 rfl (by kernel_rfl) rfl rfl rfl rfl rfl rfl rfl (area2_c ha hc hp) (AllIn.sub (by first | exact trivial | exact And.intro (by repeat first | exact .head _ | apply List.Mem.tail) trivial | exact And.intro (by repeat first | exact .head _ | apply List.Mem.tail) (And.intro (by repeat first | exact .head _ | apply List.Mem.tail) trivial))) ?_
      rintro ⟨Z1, k1⟩ hcap1
      dsimp only at hcap1
      dsimp only [List.cons_append, List.nil_append]
      refine AA_callX 7 rfl (by kernel_rfl) rfl rfl rfl rfl rfl rfl rfl (area2_c hc he hp) (AllIn.sub (by first | exact trivial | exact And.intro (by repeat first | exact .head _ | apply List.Mem.tail) trivial | exact And.intro (by repeat first | exact .head _ | apply List.Mem.tail) (And.intro (by repeat first | exact .head _ | apply List.Mem.tail) trivial))) ?_
      rintro ⟨Z2, k2⟩ hcap2
      dsimp only at hcap2
      dsimp only [List.cons_append, List.nil_append]
      refine AA_callX 11 rfl (by kernel_rfl) rfl rfl rfl rfl rfl rfl rfl (area2_c he ha hp) (AllIn.sub (by first | exact trivial | exact And.intro (by repeat first | exact .head _ | apply List.Mem.tail) trivial | exact And.intro (by repeat first | exact .head _ | apply List.Mem.tail) (And.intro (by repeat first | exact .head _ | apply List.Mem.tail) trivial))) ?_
      rintro ⟨Z3, k3⟩ hcap3
      dsimp only at hcap3
      dsimp only [List.cons_append, List.nil_append]
      refine AA_buildSliceN (vs := [_, _, _]) (cs := numCells [((A2 (tm a1) (tm a2) (tm c1) (tm c2) (tm p1) (tm p2)), Z1, k1), ((A2 (tm c1) (tm c2) (tm e1) (tm e2) (tm p1) (tm p2)), Z2, k2), ((A2 (tm e1) (tm e2) (tm a1) (tm a2) (tm p1) (tm p2)), Z3, k3)]) 12 rfl (by kernel_rfl) rfl rfl rfl rfl elt_86 zer_29 (by decide) (by decide) rfl rfl rfl rfl rfl rfl ?_
      intro b6
      have hL : ∀ t, t ∈ ([((A2 (tm a1) (tm a2) (tm c1) (tm c2) (tm p1) (tm p2)), Z1, k1), ((A2 (tm c1) (tm c2) (tm e1) (tm e2) (tm p1) (tm p2)), Z2, k2), ((A2 (tm e1) (tm e2) (tm a1) (tm a2) (tm p1) (tm p2)), Z3, k3)] : List NumT) → dl t.1 ≤ 1000 ∧ dl t.1 ≤ t.2.2 := by
        intro t ht
        rcases List.mem_cons.1 ht with rfl | ht
        · exact ⟨Nat.le_trans (dl_r128 (A2_r ha hc hp)) (by decide), hcap1⟩
        rcases List.mem_cons.1 ht with rfl | ht
        · exact ⟨Nat.le_trans (dl_r128 (A2_r hc he hp)) (by decide), hcap2⟩
        rcases List.mem_cons.1 ht with rfl | ht
        · exact ⟨Nat.le_trans (dl_r128 (A2_r he ha hp)) (by decide), hcap3⟩
        exact absurd ht (List.not_mem_nil)
      refine AA_callX 13 rfl (by kernel_rfl) rfl rfl rfl rfl rfl rfl rfl (nsum_c (L := [((A2 (tm a1) (tm a2) (tm c1) (tm c2) (tm p1) (tm p2)), Z1, k1), ((A2 (tm c1) (tm c2) (tm e1) (tm e2) (tm p1) (tm p2)), Z2, k2), ((A2 (tm e1) (tm e2) (tm a1) (tm a2) (tm p1) (tm p2)), Z3, k3)]) rfl (by simp) hL) (AllIn.sub (And.intro (by repeat first | exact .head _ | apply List.Mem.tail) (And.intro (by repeat first | exact .head _ | apply List.Mem.tail) (And.intro (by repeat first | exact .head _ | apply List.Mem.tail) (And.intro (by repeat first | exact .head _ | apply List.Mem.tail) trivial))))) ?_
      rw [psum3', weights]
      rintro ⟨Z4, k4⟩ hcap4
      dsimp only at hcap4
      dsimp only [List.cons_append, List.nil_append]
      refine AA_end (by kernel_rfl) rfl ?_
      intro bs hbs
      obtain ⟨b7, rfl⟩ := len_1 hbs
      clear hbs
      show AJ _ _ _ _ _ _ _ ((12, .pointer (some ⟨b7, 0, none⟩)) :: _) (cellsR b7 _ _ :: _) _
      refine AJ_store (cs' := #[_, _]) (μ' := [_, _, _, _, _, _]) 15 0 rfl (by kernel_rfl) rfl rfl rfl rfl tyi_29 rfl (Nat.le_of_ble_eq_true rfl) rfl rfl rfl (fun _ => AllIn.sub (And.intro (by repeat first | exact .head _ | apply List.Mem.tail) (And.intro (by repeat first | exact .head _ | apply List.Mem.tail) (And.intro (by repeat first | exact .head _ | apply List.Mem.tail) (And.intro (by repeat first | exact .head _ | apply List.Mem.tail) (And.intro (by repeat first | exact .head _ | apply List.Mem.tail) (trivial))))))) ?_
      refine AJ_done (by kernel_rfl) ?_
      refine QJ_then ?_
      refine CJ_seq ?_
      refine CJ_seq ?_
      refine CJ_regD mix (by kernel_rfl) (fun _ _ _ _ _ h => h) _ _ (fun _ h => h) (fun _ h => h) ?_
      first | refine AJ_y 0 rfl (by kernel_rfl) (by kernel_rfl) rfl rfl (YJ_loadN (vs := [_, _]) rfl tyi_29 (by repeat first | exact .head _ | apply List.Mem.tail) rfl rfl) ?_ | refine AJ_y 0 rfl (by kernel_rfl) (by kernel_rfl) rfl rfl (YJ_loadFactN (vs := [_, _]) rfl tyi_29 (by repeat first | exact .head _ | apply List.Mem.tail) rfl rfl) ?_
      first | refine AJ_y 1 rfl (by kernel_rfl) (by kernel_rfl) rfl rfl (YJ_loadN (vs := [_, _]) rfl tyi_53 (by repeat first | exact .head _ | apply List.Mem.tail) rfl rfl) ?_ | refine AJ_y 1 rfl (by kernel_rfl) (by kernel_rfl) rfl rfl (YJ_loadFactN (vs := [_, _]) rfl tyi_53 (by repeat first | exact .head _ | apply List.Mem.tail) rfl rfl) ?_
      first | refine AJ_y 2 rfl (by kernel_rfl) (by kernel_rfl) rfl rfl (YJ_loadN (vs := [_, _]) rfl tyi_53 (by repeat first | exact .head _ | apply List.Mem.tail) rfl rfl) ?_ | refine AJ_y 2 rfl (by kernel_rfl) (by kernel_rfl) rfl rfl (YJ_loadFactN (vs := [_, _]) rfl tyi_53 (by repeat first | exact .head _ | apply List.Mem.tail) rfl rfl) ?_
      first | refine AJ_y 3 rfl (by kernel_rfl) (by kernel_rfl) rfl rfl (YJ_loadN (vs := [_, _]) rfl tyi_53 (by repeat first | exact .head _ | apply List.Mem.tail) rfl rfl) ?_ | refine AJ_y 3 rfl (by kernel_rfl) (by kernel_rfl) rfl rfl (YJ_loadFactN (vs := [_, _]) rfl tyi_53 (by repeat first | exact .head _ | apply List.Mem.tail) rfl rfl) ?_
      refine AJ_callX 4 rfl (by kernel_rfl) rfl rfl rfl rfl rfl (area2_c ha hc he) (AllIn.sub (by first | exact trivial | exact And.intro (by repeat first | exact .head _ | apply List.Mem.tail) trivial | exact And.intro (by repeat first | exact .head _ | apply List.Mem.tail) (And.intro (by repeat first | exact .head _ | apply List.Mem.tail) trivial))) ?_
      rintro ⟨Z5, k5⟩ hcap5
      dsimp only at hcap5
      dsimp only [List.cons_append, List.nil_append]
      refine AJ_call0 5 rfl (by kernel_rfl) rfl rfl rfl rfl rfl (ncmp_c (dl_big (A2_r ha hc he)) (dl_big (A2_r ha hc he)) hcap4 hcap5) (AllIn.sub (And.intro (by repeat first | exact .head _ | apply List.Mem.tail) (And.intro (by repeat first | exact .head _ | apply List.Mem.tail) trivial))) ?_
      refine AJ_y 6 rfl (by kernel_rfl) (by kernel_rfl) rfl rfl (YJ_bin rfl rfl rfl) ?_
      refine AJ_y 7 rfl (by kernel_rfl) (by kernel_rfl) rfl rfl (YJ_move rfl) ?_
      refine AJ_bool (c := false) (by rw [sgn_self]; rfl) ?_
      refine AJ_y 8 rfl (by kernel_rfl) (by kernel_rfl) rfl rfl (YJ_move rfl) ?_
      first | refine AJ_y 9 rfl (by kernel_rfl) (by kernel_rfl) rfl rfl (YJ_loadN (vs := [_, _]) rfl tyi_53 (by repeat first | exact .head _ | apply List.Mem.tail) rfl rfl) ?_ | refine AJ_y 9 rfl (by kernel_rfl) (by kernel_rfl) rfl rfl (YJ_loadFactN (vs := [_, _]) rfl tyi_53 (by repeat first | exact .head _ | apply List.Mem.tail) rfl rfl) ?_
      first | refine AJ_y 10 rfl (by kernel_rfl) (by kernel_rfl) rfl rfl (YJ_loadN (vs := [_, _]) rfl tyi_53 (by repeat first | exact .head _ | apply List.Mem.tail) rfl rfl) ?_ | refine AJ_y 10 rfl (by kernel_rfl) (by kernel_rfl) rfl rfl (YJ_loadFactN (vs := [_, _]) rfl tyi_53 (by repeat first | exact .head _ | apply List.Mem.tail) rfl rfl) ?_
      first | refine AJ_y 11 rfl (by kernel_rfl) (by kernel_rfl) rfl rfl (YJ_loadN (vs := [_, _]) rfl tyi_53 (by repeat first | exact .head _ | apply List.Mem.tail) rfl rfl) ?_ | refine AJ_y 11 rfl (by kernel_rfl) (by kernel_rfl) rfl rfl (YJ_loadFactN (vs := [_, _]) rfl tyi_53 (by repeat first | exact .head _ | apply List.Mem.tail) rfl rfl) ?_
      refine AJ_call0 12 rfl (by kernel_rfl) rfl rfl rfl rfl rfl (on_c hp ha hc) (AllIn.sub (by first | exact trivial | exact And.intro (by repeat first | exact .head _ | apply List.Mem.tail) trivial | exact And.intro (by repeat first | exact .head _ | apply List.Mem.tail) (And.intro (by repeat first | exact .head _ | apply List.Mem.tail) trivial))) ?_
      refine AJ_y 13 rfl (by kernel_rfl) (by kernel_rfl) rfl rfl (YJ_move rfl) ?_
      refine AJ_boolC (fun h81 => ?_) (fun h81 => ?_)
      · try simp only [decide_eq_true_eq, decide_eq_false_iff_not, Bool.not_eq_true', Bool.not_eq_false', Bool.and_eq_true, Bool.and_eq_false_iff, beq_iff_eq, bne_iff_ne, beq_eq_false_iff_ne, bne_eq_false_iff_eq, ne_eq, decide_eq_decide] at h81
        refine AJ_skip 14 rfl (by kernel_rfl) (by kernel_rfl) rfl rfl ?_
        refine AJ_skip 15 rfl (by kernel_rfl) (by kernel_rfl) rfl rfl ?_
        refine AJ_skip 16 rfl (by kernel_rfl) (by kernel_rfl) rfl rfl ?_
        refine AJ_skip 17 rfl (by kernel_rfl) (by kernel_rfl) rfl rfl ?_
        refine AJ_y 18 rfl (by kernel_rfl) (by kernel_rfl) rfl rfl (YJ_pickT rfl rfl) ?_
        refine AJ_y 19 rfl (by kernel_rfl) (by kernel_rfl) rfl rfl (YJ_move rfl) ?_
        refine AJ_skip 20 rfl (by kernel_rfl) (by kernel_rfl) rfl rfl ?_
        refine AJ_skip 21 rfl (by kernel_rfl) (by kernel_rfl) rfl rfl ?_
        refine AJ_skip 22 rfl (by kernel_rfl) (by kernel_rfl) rfl rfl ?_
        refine AJ_skip 23 rfl (by kernel_rfl) (by kernel_rfl) rfl rfl ?_
        refine AJ_y 24 rfl (by kernel_rfl) (by kernel_rfl) rfl rfl (YJ_pickT rfl rfl) ?_
        refine AJ_y 25 rfl (by kernel_rfl) (by kernel_rfl) rfl rfl (YJ_move rfl) ?_
        refine AJ_skip 26 rfl (by kernel_rfl) (by kernel_rfl) rfl rfl ?_
        refine AJ_skip 27 rfl (by kernel_rfl) (by kernel_rfl) rfl rfl ?_
        refine AJ_skip 28 rfl (by kernel_rfl) (by kernel_rfl) rfl rfl ?_
        refine AJ_skip 29 rfl (by kernel_rfl) (by kernel_rfl) rfl rfl ?_
        refine AJ_skip 30 rfl (by kernel_rfl) (by kernel_rfl) rfl rfl ?_
        refine AJ_y 31 rfl (by kernel_rfl) (by kernel_rfl) rfl rfl (YJ_pickT rfl rfl) ?_
        refine AJ_y 32 rfl (by kernel_rfl) (by kernel_rfl) rfl rfl (YJ_neb rfl rfl ubool_4) ?_
        refine AJ_val (v := .bool false) (congrArg Value.bool (by first | (rw [bne_eq_false_iff_eq, decide_eq_true_iff]; rw [hin]; simp only [*, true_or, or_true]) | (rw [bne_eq_false_iff_eq, decide_eq_decide]; rw [hin]; simp only [*, false_or]))) ?_
        refine AJ_y 33 rfl (by kernel_rfl) (by kernel_rfl) rfl rfl (YJ_pickF rfl rfl) ?_
        refine AJ_done (by kernel_rfl) ?_
        refine QJ_then ?_
        refine CJ_condF rfl ?_
        refine CJ_skip ?_
        refine QJ_then ?_
        refine CJ_seq ?_
        refine CJ_reg ?_
        first | refine LJ_y rfl rfl (YJ_loadN (vs := [_, _]) rfl tyi_53 (by repeat first | exact .head _ | apply List.Mem.tail) rfl rfl) ?_ | refine LJ_y rfl rfl (YJ_loadFactN (vs := [_, _]) rfl tyi_53 (by repeat first | exact .head _ | apply List.Mem.tail) rfl rfl) ?_
        first | refine LJ_y rfl rfl (YJ_loadN (vs := [_, _]) rfl tyi_53 (by repeat first | exact .head _ | apply List.Mem.tail) rfl rfl) ?_ | refine LJ_y rfl rfl (YJ_loadFactN (vs := [_, _]) rfl tyi_53 (by repeat first | exact .head _ | apply List.Mem.tail) rfl rfl) ?_
        refine LJ_y rfl rfl (YJ_eqs rfl rfl (fun _ => eqs_eql_53 ..)) ?_
        refine LJ_y rfl rfl (YJ_move rfl) ?_
        refine LJ_boolC (fun h105 => ?_) (fun h105 => ?_)
        · try simp only [decide_eq_true_eq, decide_eq_false_iff_not, Bool.not_eq_true', Bool.not_eq_false', Bool.and_eq_true, Bool.and_eq_false_iff, beq_iff_eq, bne_iff_ne, beq_eq_false_iff_ne, bne_eq_false_iff_eq, ne_eq, decide_eq_decide] at h105
          refine LJ_skip rfl rfl ?_
          refine LJ_skip rfl rfl ?_
          refine LJ_skip rfl rfl ?_
          refine LJ_y rfl rfl (YJ_pickT rfl rfl) ?_
          refine LJ_y rfl rfl (YJ_move rfl) ?_
          refine LJ_skip rfl rfl ?_
          refine LJ_skip rfl rfl ?_
          refine LJ_skip rfl rfl ?_
          refine LJ_y rfl rfl (YJ_pickT rfl rfl) ?_
          refine LJ_y rfl rfl (YJ_assign rfl) ?_
          refine LJ_nil ?_
          refine QJ_then ?_
          refine CJ_seq ?_
          refine CJ_reg ?_
          refine LJ_y rfl rfl (YJ_move rfl) ?_
          refine LJ_y rfl rfl (YJ_not rfl) ?_
          refine LJ_y rfl rfl (YJ_move rfl) ?_
          refine LJ_boolC (fun h117 => ?_) (fun h117 => ?_)
          · try simp only [decide_eq_true_eq, decide_eq_false_iff_not, Bool.not_eq_true', Bool.not_eq_false', Bool.and_eq_true, Bool.and_eq_false_iff, beq_iff_eq, bne_iff_ne, beq_eq_false_iff_ne, bne_eq_false_iff_eq, ne_eq, decide_eq_decide] at h117
            refine LJ_skip rfl rfl ?_
            refine LJ_skip rfl rfl ?_
            refine LJ_skip rfl rfl ?_
            refine LJ_skip rfl rfl ?_
            refine LJ_skip rfl rfl ?_
            refine LJ_skip rfl rfl ?_
            refine LJ_y rfl rfl (YJ_pickT rfl rfl) ?_
            refine LJ_y rfl rfl (YJ_move rfl) ?_
            refine LJ_skip rfl rfl ?_
            refine LJ_skip rfl rfl ?_
            refine LJ_skip rfl rfl ?_
            refine LJ_skip rfl rfl ?_
            refine LJ_skip rfl rfl ?_
            refine LJ_skip rfl rfl ?_
            refine LJ_skip rfl rfl ?_
            refine LJ_skip rfl rfl ?_
            refine LJ_skip rfl rfl ?_
            refine LJ_y rfl rfl (YJ_pickT rfl rfl) ?_
            refine LJ_y rfl rfl (YJ_assign rfl) ?_
            refine LJ_nil ?_
            refine QJ_then ?_
            refine CJ_ret ?_
            refine QJ_fin (.inl rfl) (μ' := []) (μr := _) (φ' := []) (res_tmp rfl rfl) (List.Perm.refl _) (fun _ h => nomatch h) ?_
            exact ⟨rfl, rfl, rfl⟩
          · try simp only [decide_eq_true_eq, decide_eq_false_iff_not, Bool.not_eq_true', Bool.not_eq_false', Bool.and_eq_true, Bool.and_eq_false_iff, beq_iff_eq, bne_iff_ne, beq_eq_false_iff_ne, bne_eq_false_iff_eq, ne_eq, decide_eq_decide] at h117
            first | refine LJ_y rfl rfl (YJ_loadN (vs := [_, _]) rfl tyi_53 (by repeat first | exact .head _ | apply List.Mem.tail) rfl rfl) ?_ | refine LJ_y rfl rfl (YJ_loadFactN (vs := [_, _]) rfl tyi_53 (by repeat first | exact .head _ | apply List.Mem.tail) rfl rfl) ?_
            first | refine LJ_y rfl rfl (YJ_loadN (vs := [_, _]) rfl tyi_53 (by repeat first | exact .head _ | apply List.Mem.tail) rfl rfl) ?_ | refine LJ_y rfl rfl (YJ_loadFactN (vs := [_, _]) rfl tyi_53 (by repeat first | exact .head _ | apply List.Mem.tail) rfl rfl) ?_
            first | refine LJ_y rfl rfl (YJ_loadN (vs := [_, _]) rfl tyi_53 (by repeat first | exact .head _ | apply List.Mem.tail) rfl rfl) ?_ | refine LJ_y rfl rfl (YJ_loadFactN (vs := [_, _]) rfl tyi_53 (by repeat first | exact .head _ | apply List.Mem.tail) rfl rfl) ?_
            first | refine LJ_y rfl rfl (YJ_loadN (vs := [_, _]) rfl tyi_53 (by repeat first | exact .head _ | apply List.Mem.tail) rfl rfl) ?_ | refine LJ_y rfl rfl (YJ_loadFactN (vs := [_, _]) rfl tyi_53 (by repeat first | exact .head _ | apply List.Mem.tail) rfl rfl) ?_
            refine LJ_call0 rfl rfl rfl rfl rfl (circle_c ha hc he hp) (AllIn.sub (by first | exact trivial | exact And.intro (by repeat first | exact .head _ | apply List.Mem.tail) trivial | exact And.intro (by repeat first | exact .head _ | apply List.Mem.tail) (And.intro (by repeat first | exact .head _ | apply List.Mem.tail) trivial))) ?_
            refine LJ_y rfl rfl (YJ_bin rfl rfl rfl) ?_
            refine LJ_y rfl rfl (YJ_pickF rfl rfl) ?_
            refine LJ_y rfl rfl (YJ_move rfl) ?_
            refine LJ_boolC (fun h125 => ?_) (fun h125 => ?_)
            · try simp only [decide_eq_true_eq, decide_eq_false_iff_not, Bool.not_eq_true', Bool.not_eq_false', Bool.and_eq_true, Bool.and_eq_false_iff, beq_iff_eq, bne_iff_ne, beq_eq_false_iff_ne, bne_eq_false_iff_eq, ne_eq, decide_eq_decide] at h125
              refine LJ_skip rfl rfl ?_
              refine LJ_skip rfl rfl ?_
              refine LJ_skip rfl rfl ?_
              refine LJ_skip rfl rfl ?_
              refine LJ_skip rfl rfl ?_
              refine LJ_skip rfl rfl ?_
              refine LJ_skip rfl rfl ?_
              refine LJ_skip rfl rfl ?_
              refine LJ_skip rfl rfl ?_
              refine LJ_y rfl rfl (YJ_pickT rfl rfl) ?_
              refine LJ_y rfl rfl (YJ_assign rfl) ?_
              refine LJ_nil ?_
              refine QJ_then ?_
              refine CJ_ret ?_
              refine QJ_fin (.inl rfl) (μ' := []) (μr := _) (φ' := []) (res_tmp rfl rfl) (List.Perm.refl _) (fun _ h => nomatch h) ?_
              exact ⟨rfl, rfl, rfl⟩
            · try simp only [decide_eq_true_eq, decide_eq_false_iff_not, Bool.not_eq_true', Bool.not_eq_false', Bool.and_eq_true, Bool.and_eq_false_iff, beq_iff_eq, bne_iff_ne, beq_eq_false_iff_ne, bne_eq_false_iff_eq, ne_eq, decide_eq_decide] at h125
              refine LJ_y rfl rfl (YJ_move rfl) ?_
              refine LJ_y rfl rfl (YJ_move rfl) ?_
              first | refine LJ_y rfl rfl (YJ_loadN (vs := [_, _]) rfl tyi_53 (by repeat first | exact .head _ | apply List.Mem.tail) rfl rfl) ?_ | refine LJ_y rfl rfl (YJ_loadFactN (vs := [_, _]) rfl tyi_53 (by repeat first | exact .head _ | apply List.Mem.tail) rfl rfl) ?_
              first | refine LJ_y rfl rfl (YJ_loadN (vs := [_, _]) rfl tyi_53 (by repeat first | exact .head _ | apply List.Mem.tail) rfl rfl) ?_ | refine LJ_y rfl rfl (YJ_loadFactN (vs := [_, _]) rfl tyi_53 (by repeat first | exact .head _ | apply List.Mem.tail) rfl rfl) ?_
              first | refine LJ_y rfl rfl (YJ_loadN (vs := [_, _]) rfl tyi_53 (by repeat first | exact .head _ | apply List.Mem.tail) rfl rfl) ?_ | refine LJ_y rfl rfl (YJ_loadFactN (vs := [_, _]) rfl tyi_53 (by repeat first | exact .head _ | apply List.Mem.tail) rfl rfl) ?_
              first | refine LJ_y rfl rfl (YJ_loadN (vs := [_, _]) rfl tyi_53 (by repeat first | exact .head _ | apply List.Mem.tail) rfl rfl) ?_ | refine LJ_y rfl rfl (YJ_loadFactN (vs := [_, _]) rfl tyi_53 (by repeat first | exact .head _ | apply List.Mem.tail) rfl rfl) ?_
              refine LJ_call0 rfl rfl rfl rfl rfl (circle_c ha hc he hp) (AllIn.sub (by first | exact trivial | exact And.intro (by repeat first | exact .head _ | apply List.Mem.tail) trivial | exact And.intro (by repeat first | exact .head _ | apply List.Mem.tail) (And.intro (by repeat first | exact .head _ | apply List.Mem.tail) trivial))) ?_
              refine LJ_y rfl rfl (YJ_bin rfl rfl rfl) ?_
              refine LJ_val (v := .bool true) (congrArg Value.bool (decide_eq_true (by rcases hci h117 with h | h; exact h.2; exact absurd h.2 h125))) ?_
              refine LJ_y rfl rfl (YJ_pickT rfl rfl) ?_
              refine LJ_y rfl rfl (YJ_pickF rfl rfl) ?_
              refine LJ_y rfl rfl (YJ_assign rfl) ?_
              refine LJ_nil ?_
              refine QJ_then ?_
              refine CJ_ret ?_
              refine QJ_fin (.inl rfl) (μ' := []) (μr := _) (φ' := []) (res_tmp rfl rfl) (List.Perm.refl _) (fun _ h => nomatch h) ?_
              exact ⟨rfl, rfl, rfl⟩
        · try simp only [decide_eq_true_eq, decide_eq_false_iff_not, Bool.not_eq_true', Bool.not_eq_false', Bool.and_eq_true, Bool.and_eq_false_iff, beq_iff_eq, bne_iff_ne, beq_eq_false_iff_ne, bne_eq_false_iff_eq, ne_eq, decide_eq_decide] at h105
          first | refine LJ_y rfl rfl (YJ_loadN (vs := [_, _]) rfl tyi_53 (by repeat first | exact .head _ | apply List.Mem.tail) rfl rfl) ?_ | refine LJ_y rfl rfl (YJ_loadFactN (vs := [_, _]) rfl tyi_53 (by repeat first | exact .head _ | apply List.Mem.tail) rfl rfl) ?_
          first | refine LJ_y rfl rfl (YJ_loadN (vs := [_, _]) rfl tyi_53 (by repeat first | exact .head _ | apply List.Mem.tail) rfl rfl) ?_ | refine LJ_y rfl rfl (YJ_loadFactN (vs := [_, _]) rfl tyi_53 (by repeat first | exact .head _ | apply List.Mem.tail) rfl rfl) ?_
          refine LJ_y rfl rfl (YJ_eqs rfl rfl (fun _ => eqs_eql_53 ..)) ?_
          refine LJ_y rfl rfl (YJ_pickF rfl rfl) ?_
          refine LJ_y rfl rfl (YJ_move rfl) ?_
          refine LJ_boolC (fun h110 => ?_) (fun h110 => ?_)
          · try simp only [decide_eq_true_eq, decide_eq_false_iff_not, Bool.not_eq_true', Bool.not_eq_false', Bool.and_eq_true, Bool.and_eq_false_iff, beq_iff_eq, bne_iff_ne, beq_eq_false_iff_ne, bne_eq_false_iff_eq, ne_eq, decide_eq_decide] at h110
            refine LJ_skip rfl rfl ?_
            refine LJ_skip rfl rfl ?_
            refine LJ_skip rfl rfl ?_
            refine LJ_y rfl rfl (YJ_pickT rfl rfl) ?_
            refine LJ_y rfl rfl (YJ_assign rfl) ?_
            refine LJ_nil ?_
            refine QJ_then ?_
            refine CJ_seq ?_
            refine CJ_reg ?_
            refine LJ_y rfl rfl (YJ_move rfl) ?_
            refine LJ_y rfl rfl (YJ_not rfl) ?_
            refine LJ_y rfl rfl (YJ_move rfl) ?_
            refine LJ_boolC (fun h117 => ?_) (fun h117 => ?_)
            · try simp only [decide_eq_true_eq, decide_eq_false_iff_not, Bool.not_eq_true', Bool.not_eq_false', Bool.and_eq_true, Bool.and_eq_false_iff, beq_iff_eq, bne_iff_ne, beq_eq_false_iff_ne, bne_eq_false_iff_eq, ne_eq, decide_eq_decide] at h117
              refine LJ_skip rfl rfl ?_
              refine LJ_skip rfl rfl ?_
              refine LJ_skip rfl rfl ?_
              refine LJ_skip rfl rfl ?_
              refine LJ_skip rfl rfl ?_
              refine LJ_skip rfl rfl ?_
              refine LJ_y rfl rfl (YJ_pickT rfl rfl) ?_
              refine LJ_y rfl rfl (YJ_move rfl) ?_
              refine LJ_skip rfl rfl ?_
              refine LJ_skip rfl rfl ?_
              refine LJ_skip rfl rfl ?_
              refine LJ_skip rfl rfl ?_
              refine LJ_skip rfl rfl ?_
              refine LJ_skip rfl rfl ?_
              refine LJ_skip rfl rfl ?_
              refine LJ_skip rfl rfl ?_
              refine LJ_skip rfl rfl ?_
              refine LJ_y rfl rfl (YJ_pickT rfl rfl) ?_
              refine LJ_y rfl rfl (YJ_assign rfl) ?_
              refine LJ_nil ?_
              refine QJ_then ?_
              refine CJ_ret ?_
              refine QJ_fin (.inl rfl) (μ' := []) (μr := _) (φ' := []) (res_tmp rfl rfl) (List.Perm.refl _) (fun _ h => nomatch h) ?_
              exact ⟨rfl, rfl, rfl⟩
            · try simp only [decide_eq_true_eq, decide_eq_false_iff_not, Bool.not_eq_true', Bool.not_eq_false', Bool.and_eq_true, Bool.and_eq_false_iff, beq_iff_eq, bne_iff_ne, beq_eq_false_iff_ne, bne_eq_false_iff_eq, ne_eq, decide_eq_decide] at h117
              first | refine LJ_y rfl rfl (YJ_loadN (vs := [_, _]) rfl tyi_53 (by repeat first | exact .head _ | apply List.Mem.tail) rfl rfl) ?_ | refine LJ_y rfl rfl (YJ_loadFactN (vs := [_, _]) rfl tyi_53 (by repeat first | exact .head _ | apply List.Mem.tail) rfl rfl) ?_
              first | refine LJ_y rfl rfl (YJ_loadN (vs := [_, _]) rfl tyi_53 (by repeat first | exact .head _ | apply List.Mem.tail) rfl rfl) ?_ | refine LJ_y rfl rfl (YJ_loadFactN (vs := [_, _]) rfl tyi_53 (by repeat first | exact .head _ | apply List.Mem.tail) rfl rfl) ?_
              first | refine LJ_y rfl rfl (YJ_loadN (vs := [_, _]) rfl tyi_53 (by repeat first | exact .head _ | apply List.Mem.tail) rfl rfl) ?_ | refine LJ_y rfl rfl (YJ_loadFactN (vs := [_, _]) rfl tyi_53 (by repeat first | exact .head _ | apply List.Mem.tail) rfl rfl) ?_
              first | refine LJ_y rfl rfl (YJ_loadN (vs := [_, _]) rfl tyi_53 (by repeat first | exact .head _ | apply List.Mem.tail) rfl rfl) ?_ | refine LJ_y rfl rfl (YJ_loadFactN (vs := [_, _]) rfl tyi_53 (by repeat first | exact .head _ | apply List.Mem.tail) rfl rfl) ?_
              refine LJ_call0 rfl rfl rfl rfl rfl (circle_c ha hc he hp) (AllIn.sub (by first | exact trivial | exact And.intro (by repeat first | exact .head _ | apply List.Mem.tail) trivial | exact And.intro (by repeat first | exact .head _ | apply List.Mem.tail) (And.intro (by repeat first | exact .head _ | apply List.Mem.tail) trivial))) ?_
              refine LJ_y rfl rfl (YJ_bin rfl rfl rfl) ?_
              refine LJ_y rfl rfl (YJ_pickF rfl rfl) ?_
              refine LJ_y rfl rfl (YJ_move rfl) ?_
              refine LJ_boolC (fun h125 => ?_) (fun h125 => ?_)
              · try simp only [decide_eq_true_eq, decide_eq_false_iff_not, Bool.not_eq_true', Bool.not_eq_false', Bool.and_eq_true, Bool.and_eq_false_iff, beq_iff_eq, bne_iff_ne, beq_eq_false_iff_ne, bne_eq_false_iff_eq, ne_eq, decide_eq_decide] at h125
                refine LJ_skip rfl rfl ?_
                refine LJ_skip rfl rfl ?_
                refine LJ_skip rfl rfl ?_
                refine LJ_skip rfl rfl ?_
                refine LJ_skip rfl rfl ?_
                refine LJ_skip rfl rfl ?_
                refine LJ_skip rfl rfl ?_
                refine LJ_skip rfl rfl ?_
                refine LJ_skip rfl rfl ?_
                refine LJ_y rfl rfl (YJ_pickT rfl rfl) ?_
                refine LJ_y rfl rfl (YJ_assign rfl) ?_
                refine LJ_nil ?_
                refine QJ_then ?_
                refine CJ_ret ?_
                refine QJ_fin (.inl rfl) (μ' := []) (μr := _) (φ' := []) (res_tmp rfl rfl) (List.Perm.refl _) (fun _ h => nomatch h) ?_
                exact ⟨rfl, rfl, rfl⟩
              · try simp only [decide_eq_true_eq, decide_eq_false_iff_not, Bool.not_eq_true', Bool.not_eq_false', Bool.and_eq_true, Bool.and_eq_false_iff, beq_iff_eq, bne_iff_ne, beq_eq_false_iff_ne, bne_eq_false_iff_eq, ne_eq, decide_eq_decide] at h125
                refine LJ_y rfl rfl (YJ_move rfl) ?_
                refine LJ_y rfl rfl (YJ_move rfl) ?_
                first | refine LJ_y rfl rfl (YJ_loadN (vs := [_, _]) rfl tyi_53 (by repeat first | exact .head _ | apply List.Mem.tail) rfl rfl) ?_ | refine LJ_y rfl rfl (YJ_loadFactN (vs := [_, _]) rfl tyi_53 (by repeat first | exact .head _ | apply List.Mem.tail) rfl rfl) ?_
                first | refine LJ_y rfl rfl (YJ_loadN (vs := [_, _]) rfl tyi_53 (by repeat first | exact .head _ | apply List.Mem.tail) rfl rfl) ?_ | refine LJ_y rfl rfl (YJ_loadFactN (vs := [_, _]) rfl tyi_53 (by repeat first | exact .head _ | apply List.Mem.tail) rfl rfl) ?_
                first | refine LJ_y rfl rfl (YJ_loadN (vs := [_, _]) rfl tyi_53 (by repeat first | exact .head _ | apply List.Mem.tail) rfl rfl) ?_ | refine LJ_y rfl rfl (YJ_loadFactN (vs := [_, _]) rfl tyi_53 (by repeat first | exact .head _ | apply List.Mem.tail) rfl rfl) ?_
                first | refine LJ_y rfl rfl (YJ_loadN (vs := [_, _]) rfl tyi_53 (by repeat first | exact .head _ | apply List.Mem.tail) rfl rfl) ?_ | refine LJ_y rfl rfl (YJ_loadFactN (vs := [_, _]) rfl tyi_53 (by repeat first | exact .head _ | apply List.Mem.tail) rfl rfl) ?_
                refine LJ_call0 rfl rfl rfl rfl rfl (circle_c ha hc he hp) (AllIn.sub (by first | exact trivial | exact And.intro (by repeat first | exact .head _ | apply List.Mem.tail) trivial | exact And.intro (by repeat first | exact .head _ | apply List.Mem.tail) (And.intro (by repeat first | exact .head _ | apply List.Mem.tail) trivial))) ?_
                refine LJ_y rfl rfl (YJ_bin rfl rfl rfl) ?_
                refine LJ_val (v := .bool true) (congrArg Value.bool (decide_eq_true (by rcases hci h117 with h | h; exact h.2; exact absurd h.2 h125))) ?_
                refine LJ_y rfl rfl (YJ_pickT rfl rfl) ?_
                refine LJ_y rfl rfl (YJ_pickF rfl rfl) ?_
                refine LJ_y rfl rfl (YJ_assign rfl) ?_
                refine LJ_nil ?_
                refine QJ_then ?_
                refine CJ_ret ?_
                refine QJ_fin (.inl rfl) (μ' := []) (μr := _) (φ' := []) (res_tmp rfl rfl) (List.Perm.refl _) (fun _ h => nomatch h) ?_
                exact ⟨rfl, rfl, rfl⟩
          · try simp only [decide_eq_true_eq, decide_eq_false_iff_not, Bool.not_eq_true', Bool.not_eq_false', Bool.and_eq_true, Bool.and_eq_false_iff, beq_iff_eq, bne_iff_ne, beq_eq_false_iff_ne, bne_eq_false_iff_eq, ne_eq, decide_eq_decide] at h110
            first | refine LJ_y rfl rfl (YJ_loadN (vs := [_, _]) rfl tyi_53 (by repeat first | exact .head _ | apply List.Mem.tail) rfl rfl) ?_ | refine LJ_y rfl rfl (YJ_loadFactN (vs := [_, _]) rfl tyi_53 (by repeat first | exact .head _ | apply List.Mem.tail) rfl rfl) ?_
            first | refine LJ_y rfl rfl (YJ_loadN (vs := [_, _]) rfl tyi_53 (by repeat first | exact .head _ | apply List.Mem.tail) rfl rfl) ?_ | refine LJ_y rfl rfl (YJ_loadFactN (vs := [_, _]) rfl tyi_53 (by repeat first | exact .head _ | apply List.Mem.tail) rfl rfl) ?_
            refine LJ_y rfl rfl (YJ_eqs rfl rfl (fun _ => eqs_eql_53 ..)) ?_
            refine LJ_y rfl rfl (YJ_pickF rfl rfl) ?_
            refine LJ_y rfl rfl (YJ_assign rfl) ?_
            refine LJ_nil ?_
            refine QJ_then ?_
            refine CJ_seq ?_
            refine CJ_reg ?_
            refine LJ_y rfl rfl (YJ_move rfl) ?_
            refine LJ_y rfl rfl (YJ_not rfl) ?_
            refine LJ_y rfl rfl (YJ_move rfl) ?_
            refine LJ_boolC (fun h117 => ?_) (fun h117 => ?_)
            · try simp only [decide_eq_true_eq, decide_eq_false_iff_not, Bool.not_eq_true', Bool.not_eq_false', Bool.and_eq_true, Bool.and_eq_false_iff, beq_iff_eq, bne_iff_ne, beq_eq_false_iff_ne, bne_eq_false_iff_eq, ne_eq, decide_eq_decide] at h117
              refine LJ_skip rfl rfl ?_
              refine LJ_skip rfl rfl ?_
              refine LJ_skip rfl rfl ?_
              refine LJ_skip rfl rfl ?_
              refine LJ_skip rfl rfl ?_
              refine LJ_skip rfl rfl ?_
              refine LJ_y rfl rfl (YJ_pickT rfl rfl) ?_
              refine LJ_y rfl rfl (YJ_move rfl) ?_
              refine LJ_skip rfl rfl ?_
              refine LJ_skip rfl rfl ?_
              refine LJ_skip rfl rfl ?_
              refine LJ_skip rfl rfl ?_
              refine LJ_skip rfl rfl ?_
              refine LJ_skip rfl rfl ?_
              refine LJ_skip rfl rfl ?_
              refine LJ_skip rfl rfl ?_
              refine LJ_skip rfl rfl ?_
              refine LJ_y rfl rfl (YJ_pickT rfl rfl) ?_
              refine LJ_y rfl rfl (YJ_assign rfl) ?_
              refine LJ_nil ?_
              refine QJ_then ?_
              refine CJ_ret ?_
              refine QJ_fin (.inl rfl) (μ' := []) (μr := _) (φ' := []) (res_tmp rfl rfl) (List.Perm.refl _) (fun _ h => nomatch h) ?_
              exact ⟨rfl, rfl, rfl⟩
            · try simp only [decide_eq_true_eq, decide_eq_false_iff_not, Bool.not_eq_true', Bool.not_eq_false', Bool.and_eq_true, Bool.and_eq_false_iff, beq_iff_eq, bne_iff_ne, beq_eq_false_iff_ne, bne_eq_false_iff_eq, ne_eq, decide_eq_decide] at h117
              first | refine LJ_y rfl rfl (YJ_loadN (vs := [_, _]) rfl tyi_53 (by repeat first | exact .head _ | apply List.Mem.tail) rfl rfl) ?_ | refine LJ_y rfl rfl (YJ_loadFactN (vs := [_, _]) rfl tyi_53 (by repeat first | exact .head _ | apply List.Mem.tail) rfl rfl) ?_
              first | refine LJ_y rfl rfl (YJ_loadN (vs := [_, _]) rfl tyi_53 (by repeat first | exact .head _ | apply List.Mem.tail) rfl rfl) ?_ | refine LJ_y rfl rfl (YJ_loadFactN (vs := [_, _]) rfl tyi_53 (by repeat first | exact .head _ | apply List.Mem.tail) rfl rfl) ?_
              first | refine LJ_y rfl rfl (YJ_loadN (vs := [_, _]) rfl tyi_53 (by repeat first | exact .head _ | apply List.Mem.tail) rfl rfl) ?_ | refine LJ_y rfl rfl (YJ_loadFactN (vs := [_, _]) rfl tyi_53 (by repeat first | exact .head _ | apply List.Mem.tail) rfl rfl) ?_
              first | refine LJ_y rfl rfl (YJ_loadN (vs := [_, _]) rfl tyi_53 (by repeat first | exact .head _ | apply List.Mem.tail) rfl rfl) ?_ | refine LJ_y rfl rfl (YJ_loadFactN (vs := [_, _]) rfl tyi_53 (by repeat first | exact .head _ | apply List.Mem.tail) rfl rfl) ?_
              refine LJ_call0 rfl rfl rfl rfl rfl (circle_c ha hc he hp) (AllIn.sub (by first | exact trivial | exact And.intro (by repeat first | exact .head _ | apply List.Mem.tail) trivial | exact And.intro (by repeat first | exact .head _ | apply List.Mem.tail) (And.intro (by repeat first | exact .head _ | apply List.Mem.tail) trivial))) ?_
              refine LJ_y rfl rfl (YJ_bin rfl rfl rfl) ?_
              refine LJ_y rfl rfl (YJ_pickF rfl rfl) ?_
              refine LJ_y rfl rfl (YJ_move rfl) ?_
              refine LJ_boolC (fun h125 => ?_) (fun h125 => ?_)
              · try simp only [decide_eq_true_eq, decide_eq_false_iff_not, Bool.not_eq_true', Bool.not_eq_false', Bool.and_eq_true, Bool.and_eq_false_iff, beq_iff_eq, bne_iff_ne, beq_eq_false_iff_ne, bne_eq_false_iff_eq, ne_eq, decide_eq_decide] at h125
                refine LJ_skip rfl rfl ?_
                refine LJ_skip rfl rfl ?_
                refine LJ_skip rfl rfl ?_
                refine LJ_skip rfl rfl ?_
                refine LJ_skip rfl rfl ?_
                refine LJ_skip rfl rfl ?_
                refine LJ_skip rfl rfl ?_
                refine LJ_skip rfl rfl ?_
                refine LJ_skip rfl rfl ?_
                refine LJ_y rfl rfl (YJ_pickT rfl rfl) ?_
                refine LJ_y rfl rfl (YJ_assign rfl) ?_
                refine LJ_nil ?_
                refine QJ_then ?_
                refine CJ_ret ?_
                refine QJ_fin (.inl rfl) (μ' := []) (μr := _) (φ' := []) (res_tmp rfl rfl) (List.Perm.refl _) (fun _ h => nomatch h) ?_
                exact ⟨rfl, rfl, rfl⟩
              · try simp only [decide_eq_true_eq, decide_eq_false_iff_not, Bool.not_eq_true', Bool.not_eq_false', Bool.and_eq_true, Bool.and_eq_false_iff, beq_iff_eq, bne_iff_ne, beq_eq_false_iff_ne, bne_eq_false_iff_eq, ne_eq, decide_eq_decide] at h125
                refine LJ_y rfl rfl (YJ_move rfl) ?_
                refine LJ_y rfl rfl (YJ_move rfl) ?_
                refine LJ_boolC (fun h127 => ?_) (fun h127 => ?_)
                · try simp only [decide_eq_true_eq, decide_eq_false_iff_not, Bool.not_eq_true', Bool.not_eq_false', Bool.and_eq_true, Bool.and_eq_false_iff, beq_iff_eq, bne_iff_ne, beq_eq_false_iff_ne, bne_eq_false_iff_eq, ne_eq, decide_eq_decide] at h127
                  first | refine LJ_y rfl rfl (YJ_loadN (vs := [_, _]) rfl tyi_53 (by repeat first | exact .head _ | apply List.Mem.tail) rfl rfl) ?_ | refine LJ_y rfl rfl (YJ_loadFactN (vs := [_, _]) rfl tyi_53 (by repeat first | exact .head _ | apply List.Mem.tail) rfl rfl) ?_
                  first | refine LJ_y rfl rfl (YJ_loadN (vs := [_, _]) rfl tyi_53 (by repeat first | exact .head _ | apply List.Mem.tail) rfl rfl) ?_ | refine LJ_y rfl rfl (YJ_loadFactN (vs := [_, _]) rfl tyi_53 (by repeat first | exact .head _ | apply List.Mem.tail) rfl rfl) ?_
                  first | refine LJ_y rfl rfl (YJ_loadN (vs := [_, _]) rfl tyi_53 (by repeat first | exact .head _ | apply List.Mem.tail) rfl rfl) ?_ | refine LJ_y rfl rfl (YJ_loadFactN (vs := [_, _]) rfl tyi_53 (by repeat first | exact .head _ | apply List.Mem.tail) rfl rfl) ?_
                  first | refine LJ_y rfl rfl (YJ_loadN (vs := [_, _]) rfl tyi_53 (by repeat first | exact .head _ | apply List.Mem.tail) rfl rfl) ?_ | refine LJ_y rfl rfl (YJ_loadFactN (vs := [_, _]) rfl tyi_53 (by repeat first | exact .head _ | apply List.Mem.tail) rfl rfl) ?_
                  refine LJ_call0 rfl rfl rfl rfl rfl (circle_c ha hc he hp) (AllIn.sub (by first | exact trivial | exact And.intro (by repeat first | exact .head _ | apply List.Mem.tail) trivial | exact And.intro (by repeat first | exact .head _ | apply List.Mem.tail) (And.intro (by repeat first | exact .head _ | apply List.Mem.tail) trivial))) ?_
                  refine LJ_y rfl rfl (YJ_bin rfl rfl rfl) ?_
                  refine LJ_val (v := .bool true) (congrArg Value.bool (decide_eq_true (by rcases hci h117 with h | h; exact h.2; exact absurd h.2 h125))) ?_
                  refine LJ_y rfl rfl (YJ_pickT rfl rfl) ?_
                  refine LJ_y rfl rfl (YJ_pickF rfl rfl) ?_
                  refine LJ_y rfl rfl (YJ_assign rfl) ?_
                  refine LJ_nil ?_
                  refine QJ_then ?_
                  refine CJ_ret ?_
                  refine QJ_fin (.inl rfl) (μ' := []) (μr := _) (φ' := []) (res_tmp rfl rfl) (List.Perm.refl _) (fun _ h => nomatch h) ?_
                  exact ⟨rfl, rfl, rfl⟩
                · try simp only [decide_eq_true_eq, decide_eq_false_iff_not, Bool.not_eq_true', Bool.not_eq_false', Bool.and_eq_true, Bool.and_eq_false_iff, beq_iff_eq, bne_iff_ne, beq_eq_false_iff_ne, bne_eq_false_iff_eq, ne_eq, decide_eq_decide] at h127
                  exfalso
                  rcases hci h117 with ⟨hc2, -⟩ | ⟨-, h1⟩
                  · omega
                  · exact absurd h1 h125
      · try simp only [decide_eq_true_eq, decide_eq_false_iff_not, Bool.not_eq_true', Bool.not_eq_false', Bool.and_eq_true, Bool.and_eq_false_iff, beq_iff_eq, bne_iff_ne, beq_eq_false_iff_ne, bne_eq_false_iff_eq, ne_eq, decide_eq_decide] at h81
        first | refine AJ_y 14 rfl (by kernel_rfl) (by kernel_rfl) rfl rfl (YJ_loadN (vs := [_, _]) rfl tyi_53 (by repeat first | exact .head _ | apply List.Mem.tail) rfl rfl) ?_ | refine AJ_y 14 rfl (by kernel_rfl) (by kernel_rfl) rfl rfl (YJ_loadFactN (vs := [_, _]) rfl tyi_53 (by repeat first | exact .head _ | apply List.Mem.tail) rfl rfl) ?_
        first | refine AJ_y 15 rfl (by kernel_rfl) (by kernel_rfl) rfl rfl (YJ_loadN (vs := [_, _]) rfl tyi_53 (by repeat first | exact .head _ | apply List.Mem.tail) rfl rfl) ?_ | refine AJ_y 15 rfl (by kernel_rfl) (by kernel_rfl) rfl rfl (YJ_loadFactN (vs := [_, _]) rfl tyi_53 (by repeat first | exact .head _ | apply List.Mem.tail) rfl rfl) ?_
        first | refine AJ_y 16 rfl (by kernel_rfl) (by kernel_rfl) rfl rfl (YJ_loadN (vs := [_, _]) rfl tyi_53 (by repeat first | exact .head _ | apply List.Mem.tail) rfl rfl) ?_ | refine AJ_y 16 rfl (by kernel_rfl) (by kernel_rfl) rfl rfl (YJ_loadFactN (vs := [_, _]) rfl tyi_53 (by repeat first | exact .head _ | apply List.Mem.tail) rfl rfl) ?_
        refine AJ_call0 17 rfl (by kernel_rfl) rfl rfl rfl rfl rfl (on_c hp hc he) (AllIn.sub (by first | exact trivial | exact And.intro (by repeat first | exact .head _ | apply List.Mem.tail) trivial | exact And.intro (by repeat first | exact .head _ | apply List.Mem.tail) (And.intro (by repeat first | exact .head _ | apply List.Mem.tail) trivial))) ?_
        refine AJ_y 18 rfl (by kernel_rfl) (by kernel_rfl) rfl rfl (YJ_pickF rfl rfl) ?_
        refine AJ_y 19 rfl (by kernel_rfl) (by kernel_rfl) rfl rfl (YJ_move rfl) ?_
        refine AJ_boolC (fun h87 => ?_) (fun h87 => ?_)
        · try simp only [decide_eq_true_eq, decide_eq_false_iff_not, Bool.not_eq_true', Bool.not_eq_false', Bool.and_eq_true, Bool.and_eq_false_iff, beq_iff_eq, bne_iff_ne, beq_eq_false_iff_ne, bne_eq_false_iff_eq, ne_eq, decide_eq_decide] at h87
          refine AJ_skip 20 rfl (by kernel_rfl) (by kernel_rfl) rfl rfl ?_
          refine AJ_skip 21 rfl (by kernel_rfl) (by kernel_rfl) rfl rfl ?_
          refine AJ_skip 22 rfl (by kernel_rfl) (by kernel_rfl) rfl rfl ?_
          refine AJ_skip 23 rfl (by kernel_rfl) (by kernel_rfl) rfl rfl ?_
          refine AJ_y 24 rfl (by kernel_rfl) (by kernel_rfl) rfl rfl (YJ_pickT rfl rfl) ?_
          refine AJ_y 25 rfl (by kernel_rfl) (by kernel_rfl) rfl rfl (YJ_move rfl) ?_
          refine AJ_skip 26 rfl (by kernel_rfl) (by kernel_rfl) rfl rfl ?_
          refine AJ_skip 27 rfl (by kernel_rfl) (by kernel_rfl) rfl rfl ?_
          refine AJ_skip 28 rfl (by kernel_rfl) (by kernel_rfl) rfl rfl ?_
          refine AJ_skip 29 rfl (by kernel_rfl) (by kernel_rfl) rfl rfl ?_
          refine AJ_skip 30 rfl (by kernel_rfl) (by kernel_rfl) rfl rfl ?_
          refine AJ_y 31 rfl (by kernel_rfl) (by kernel_rfl) rfl rfl (YJ_pickT rfl rfl) ?_
          refine AJ_y 32 rfl (by kernel_rfl) (by kernel_rfl) rfl rfl (YJ_neb rfl rfl ubool_4) ?_
          refine AJ_val (v := .bool false) (congrArg Value.bool (by first | (rw [bne_eq_false_iff_eq, decide_eq_true_iff]; rw [hin]; simp only [*, true_or, or_true]) | (rw [bne_eq_false_iff_eq, decide_eq_decide]; rw [hin]; simp only [*, false_or]))) ?_
          refine AJ_y 33 rfl (by kernel_rfl) (by kernel_rfl) rfl rfl (YJ_pickF rfl rfl) ?_
          refine AJ_done (by kernel_rfl) ?_
          refine QJ_then ?_
          refine CJ_condF rfl ?_
          refine CJ_skip ?_
          refine QJ_then ?_
          refine CJ_seq ?_
          refine CJ_reg ?_
          first | refine LJ_y rfl rfl (YJ_loadN (vs := [_, _]) rfl tyi_53 (by repeat first | exact .head _ | apply List.Mem.tail) rfl rfl) ?_ | refine LJ_y rfl rfl (YJ_loadFactN (vs := [_, _]) rfl tyi_53 (by repeat first | exact .head _ | apply List.Mem.tail) rfl rfl) ?_
          first | refine LJ_y rfl rfl (YJ_loadN (vs := [_, _]) rfl tyi_53 (by repeat first | exact .head _ | apply List.Mem.tail) rfl rfl) ?_ | refine LJ_y rfl rfl (YJ_loadFactN (vs := [_, _]) rfl tyi_53 (by repeat first | exact .head _ | apply List.Mem.tail) rfl rfl) ?_
          refine LJ_y rfl rfl (YJ_eqs rfl rfl (fun _ => eqs_eql_53 ..)) ?_
          refine LJ_y rfl rfl (YJ_move rfl) ?_
          refine LJ_boolC (fun h105 => ?_) (fun h105 => ?_)
          · try simp only [decide_eq_true_eq, decide_eq_false_iff_not, Bool.not_eq_true', Bool.not_eq_false', Bool.and_eq_true, Bool.and_eq_false_iff, beq_iff_eq, bne_iff_ne, beq_eq_false_iff_ne, bne_eq_false_iff_eq, ne_eq, decide_eq_decide] at h105
            refine LJ_skip rfl rfl ?_
            refine LJ_skip rfl rfl ?_
            refine LJ_skip rfl rfl ?_
            refine LJ_y rfl rfl (YJ_pickT rfl rfl) ?_
            refine LJ_y rfl rfl (YJ_move rfl) ?_
            refine LJ_skip rfl rfl ?_
            refine LJ_skip rfl rfl ?_
            refine LJ_skip rfl rfl ?_
            refine LJ_y rfl rfl (YJ_pickT rfl rfl) ?_
            refine LJ_y rfl rfl (YJ_assign rfl) ?_
            refine LJ_nil ?_
            refine QJ_then ?_
            refine CJ_seq ?_
            refine CJ_reg ?_
            refine LJ_y rfl rfl (YJ_move rfl) ?_
            refine LJ_y rfl rfl (YJ_not rfl) ?_
            refine LJ_y rfl rfl (YJ_move rfl) ?_
            refine LJ_boolC (fun h117 => ?_) (fun h117 => ?_)
            · try simp only [decide_eq_true_eq, decide_eq_false_iff_not, Bool.not_eq_true', Bool.not_eq_false', Bool.and_eq_true, Bool.and_eq_false_iff, beq_iff_eq, bne_iff_ne, beq_eq_false_iff_ne, bne_eq_false_iff_eq, ne_eq, decide_eq_decide] at h117
              refine LJ_skip rfl rfl ?_
              refine LJ_skip rfl rfl ?_
              refine LJ_skip rfl rfl ?_
              refine LJ_skip rfl rfl ?_
              refine LJ_skip rfl rfl ?_
              refine LJ_skip rfl rfl ?_
              refine LJ_y rfl rfl (YJ_pickT rfl rfl) ?_
              refine LJ_y rfl rfl (YJ_move rfl) ?_
              refine LJ_skip rfl rfl ?_
              refine LJ_skip rfl rfl ?_
              refine LJ_skip rfl rfl ?_
              refine LJ_skip rfl rfl ?_
              refine LJ_skip rfl rfl ?_
              refine LJ_skip rfl rfl ?_
              refine LJ_skip rfl rfl ?_
              refine LJ_skip rfl rfl ?_
              refine LJ_skip rfl rfl ?_
              refine LJ_y rfl rfl (YJ_pickT rfl rfl) ?_
              refine LJ_y rfl rfl (YJ_assign rfl) ?_
              refine LJ_nil ?_
              refine QJ_then ?_
              refine CJ_ret ?_
              refine QJ_fin (.inl rfl) (μ' := []) (μr := _) (φ' := []) (res_tmp rfl rfl) (List.Perm.refl _) (fun _ h => nomatch h) ?_
              exact ⟨rfl, rfl, rfl⟩
            · try simp only [decide_eq_true_eq, decide_eq_false_iff_not, Bool.not_eq_true', Bool.not_eq_false', Bool.and_eq_true, Bool.and_eq_false_iff, beq_iff_eq, bne_iff_ne, beq_eq_false_iff_ne, bne_eq_false_iff_eq, ne_eq, decide_eq_decide] at h117
              first | refine LJ_y rfl rfl (YJ_loadN (vs := [_, _]) rfl tyi_53 (by repeat first | exact .head _ | apply List.Mem.tail) rfl rfl) ?_ | refine LJ_y rfl rfl (YJ_loadFactN (vs := [_, _]) rfl tyi_53 (by repeat first | exact .head _ | apply List.Mem.tail) rfl rfl) ?_
              first | refine LJ_y rfl rfl (YJ_loadN (vs := [_, _]) rfl tyi_53 (by repeat first | exact .head _ | apply List.Mem.tail) rfl rfl) ?_ | refine LJ_y rfl rfl (YJ_loadFactN (vs := [_, _]) rfl tyi_53 (by repeat first | exact .head _ | apply List.Mem.tail) rfl rfl) ?_
              first | refine LJ_y rfl rfl (YJ_loadN (vs := [_, _]) rfl tyi_53 (by repeat first | exact .head _ | apply List.Mem.tail) rfl rfl) ?_ | refine LJ_y rfl rfl (YJ_loadFactN (vs := [_, _]) rfl tyi_53 (by repeat first | exact .head _ | apply List.Mem.tail) rfl rfl) ?_
              first | refine LJ_y rfl rfl (YJ_loadN (vs := [_, _]) rfl tyi_53 (by repeat first | exact .head _ | apply List.Mem.tail) rfl rfl) ?_ | refine LJ_y rfl rfl (YJ_loadFactN (vs := [_, _]) rfl tyi_53 (by repeat first | exact .head _ | apply List.Mem.tail) rfl rfl) ?_
              refine LJ_call0 rfl rfl rfl rfl rfl (circle_c ha hc he hp) (AllIn.sub (by first | exact trivial | exact And.intro (by repeat first | exact .head _ | apply List.Mem.tail) trivial | exact And.intro (by repeat first | exact .head _ | apply List.Mem.tail) (And.intro (by repeat first | exact .head _ | apply List.Mem.tail) trivial))) ?_
              refine LJ_y rfl rfl (YJ_bin rfl rfl rfl) ?_
              refine LJ_y rfl rfl (YJ_pickF rfl rfl) ?_
              refine LJ_y rfl rfl (YJ_move rfl) ?_
              refine LJ_boolC (fun h125 => ?_) (fun h125 => ?_)
              · try simp only [decide_eq_true_eq, decide_eq_false_iff_not, Bool.not_eq_true', Bool.not_eq_false', Bool.and_eq_true, Bool.and_eq_false_iff, beq_iff_eq, bne_iff_ne, beq_eq_false_iff_ne, bne_eq_false_iff_eq, ne_eq, decide_eq_decide] at h125
                refine LJ_skip rfl rfl ?_
                refine LJ_skip rfl rfl ?_
                refine LJ_skip rfl rfl ?_
                refine LJ_skip rfl rfl ?_
                refine LJ_skip rfl rfl ?_
                refine LJ_skip rfl rfl ?_
                refine LJ_skip rfl rfl ?_
                refine LJ_skip rfl rfl ?_
                refine LJ_skip rfl rfl ?_
                refine LJ_y rfl rfl (YJ_pickT rfl rfl) ?_
                refine LJ_y rfl rfl (YJ_assign rfl) ?_
                refine LJ_nil ?_
                refine QJ_then ?_
                refine CJ_ret ?_
                refine QJ_fin (.inl rfl) (μ' := []) (μr := _) (φ' := []) (res_tmp rfl rfl) (List.Perm.refl _) (fun _ h => nomatch h) ?_
                exact ⟨rfl, rfl, rfl⟩
              · try simp only [decide_eq_true_eq, decide_eq_false_iff_not, Bool.not_eq_true', Bool.not_eq_false', Bool.and_eq_true, Bool.and_eq_false_iff, beq_iff_eq, bne_iff_ne, beq_eq_false_iff_ne, bne_eq_false_iff_eq, ne_eq, decide_eq_decide] at h125
                refine LJ_y rfl rfl (YJ_move rfl) ?_
                refine LJ_y rfl rfl (YJ_move rfl) ?_
                first | refine LJ_y rfl rfl (YJ_loadN (vs := [_, _]) rfl tyi_53 (by repeat first | exact .head _ | apply List.Mem.tail) rfl rfl) ?_ | refine LJ_y rfl rfl (YJ_loadFactN (vs := [_, _]) rfl tyi_53 (by repeat first | exact .head _ | apply List.Mem.tail) rfl rfl) ?_
                first | refine LJ_y rfl rfl (YJ_loadN (vs := [_, _]) rfl tyi_53 (by repeat first | exact .head _ | apply List.Mem.tail) rfl rfl) ?_ | refine LJ_y rfl rfl (YJ_loadFactN (vs := [_, _]) rfl tyi_53 (by repeat first | exact .head _ | apply List.Mem.tail) rfl rfl) ?_
                first | refine LJ_y rfl rfl (YJ_loadN (vs := [_, _]) rfl tyi_53 (by repeat first | exact .head _ | apply List.Mem.tail) rfl rfl) ?_ | refine LJ_y rfl rfl (YJ_loadFactN (vs := [_, _]) rfl tyi_53 (by repeat first | exact .head _ | apply List.Mem.tail) rfl rfl) ?_
                first | refine LJ_y rfl rfl (YJ_loadN (vs := [_, _]) rfl tyi_53 (by repeat first | exact .head _ | apply List.Mem.tail) rfl rfl) ?_ | refine LJ_y rfl rfl (YJ_loadFactN (vs := [_, _]) rfl tyi_53 (by repeat first | exact .head _ | apply List.Mem.tail) rfl rfl) ?_
                refine LJ_call0 rfl rfl rfl rfl rfl (circle_c ha hc he hp) (AllIn.sub (by first | exact trivial | exact And.intro (by repeat first | exact .head _ | apply List.Mem.tail) trivial | exact And.intro (by repeat first | exact .head _ | apply List.Mem.tail) (And.intro (by repeat first | exact .head _ | apply List.Mem.tail) trivial))) ?_
                refine LJ_y rfl rfl (YJ_bin rfl rfl rfl) ?_
                refine LJ_val (v := .bool true) (congrArg Value.bool (decide_eq_true (by rcases hci h117 with h | h; exact h.2; exact absurd h.2 h125))) ?_
                refine LJ_y rfl rfl (YJ_pickT rfl rfl) ?_
                refine LJ_y rfl rfl (YJ_pickF rfl rfl) ?_
                refine LJ_y rfl rfl (YJ_assign rfl) ?_
                refine LJ_nil ?_
                refine QJ_then ?_
                refine CJ_ret ?_
                refine QJ_fin (.inl rfl) (μ' := []) (μr := _) (φ' := []) (res_tmp rfl rfl) (List.Perm.refl _) (fun _ h => nomatch h) ?_
                exact ⟨rfl, rfl, rfl⟩
          · try simp only [decide_eq_true_eq, decide_eq_false_iff_not, Bool.not_eq_true', Bool.not_eq_false', Bool.and_eq_true, Bool.and_eq_false_iff, beq_iff_eq, bne_iff_ne, beq_eq_false_iff_ne, bne_eq_false_iff_eq, ne_eq, decide_eq_decide] at h105
            first | refine LJ_y rfl rfl (YJ_loadN (vs := [_, _]) rfl tyi_53 (by repeat first | exact .head _ | apply List.Mem.tail) rfl rfl) ?_ | refine LJ_y rfl rfl (YJ_loadFactN (vs := [_, _]) rfl tyi_53 (by repeat first | exact .head _ | apply List.Mem.tail) rfl rfl) ?_
            first | refine LJ_y rfl rfl (YJ_loadN (vs := [_, _]) rfl tyi_53 (by repeat first | exact .head _ | apply List.Mem.tail) rfl rfl) ?_ | refine LJ_y rfl rfl (YJ_loadFactN (vs := [_, _]) rfl tyi_53 (by repeat first | exact .head _ | apply List.Mem.tail) rfl rfl) ?_
            refine LJ_y rfl rfl (YJ_eqs rfl rfl (fun _ => eqs_eql_53 ..)) ?_
            refine LJ_y rfl rfl (YJ_pickF rfl rfl) ?_
            refine LJ_y rfl rfl (YJ_move rfl) ?_
            refine LJ_boolC (fun h110 => ?_) (fun h110 => ?_)
            · try simp only [decide_eq_true_eq, decide_eq_false_iff_not, Bool.not_eq_true', Bool.not_eq_false', Bool.and_eq_true, Bool.and_eq_false_iff, beq_iff_eq, bne_iff_ne, beq_eq_false_iff_ne, bne_eq_false_iff_eq, ne_eq, decide_eq_decide] at h110
              refine LJ_skip rfl rfl ?_
              refine LJ_skip rfl rfl ?_
              refine LJ_skip rfl rfl ?_
              refine LJ_y rfl rfl (YJ_pickT rfl rfl) ?_
              refine LJ_y rfl rfl (YJ_assign rfl) ?_
              refine LJ_nil ?_
              refine QJ_then ?_
              refine CJ_seq ?_
              refine CJ_reg ?_
              refine LJ_y rfl rfl (YJ_move rfl) ?_
              refine LJ_y rfl rfl (YJ_not rfl) ?_
              refine LJ_y rfl rfl (YJ_move rfl) ?_
              refine LJ_boolC (fun h117 => ?_) (fun h117 => ?_)
              · try simp only [decide_eq_true_eq, decide_eq_false_iff_not, Bool.not_eq_true', Bool.not_eq_false', Bool.and_eq_true, Bool.and_eq_false_iff, beq_iff_eq, bne_iff_ne, beq_eq_false_iff_ne, bne_eq_false_iff_eq, ne_eq, decide_eq_decide] at h117
                refine LJ_skip rfl rfl ?_
                refine LJ_skip rfl rfl ?_
                refine LJ_skip rfl rfl ?_
                refine LJ_skip rfl rfl ?_
                refine LJ_skip rfl rfl ?_
                refine LJ_skip rfl rfl ?_
                refine LJ_y rfl rfl (YJ_pickT rfl rfl) ?_
                refine LJ_y rfl rfl (YJ_move rfl) ?_
                refine LJ_skip rfl rfl ?_
                refine LJ_skip rfl rfl ?_
                refine LJ_skip rfl rfl ?_
                refine LJ_skip rfl rfl ?_
                refine LJ_skip rfl rfl ?_
                refine LJ_skip rfl rfl ?_
                refine LJ_skip rfl rfl ?_
                refine LJ_skip rfl rfl ?_
                refine LJ_skip rfl rfl ?_
                refine LJ_y rfl rfl (YJ_pickT rfl rfl) ?_
                refine LJ_y rfl rfl (YJ_assign rfl) ?_
                refine LJ_nil ?_
                refine QJ_then ?_
                refine CJ_ret ?_
                refine QJ_fin (.inl rfl) (μ' := []) (μr := _) (φ' := []) (res_tmp rfl rfl) (List.Perm.refl _) (fun _ h => nomatch h) ?_
                exact ⟨rfl, rfl, rfl⟩
              · try simp only [decide_eq_true_eq, decide_eq_false_iff_not, Bool.not_eq_true', Bool.not_eq_false', Bool.and_eq_true, Bool.and_eq_false_iff, beq_iff_eq, bne_iff_ne, beq_eq_false_iff_ne, bne_eq_false_iff_eq, ne_eq, decide_eq_decide] at h117
                first | refine LJ_y rfl rfl (YJ_loadN (vs := [_, _]) rfl tyi_53 (by repeat first | exact .head _ | apply List.Mem.tail) rfl rfl) ?_ | refine LJ_y rfl rfl (YJ_loadFactN (vs := [_, _]) rfl tyi_53 (by repeat first | exact .head _ | apply List.Mem.tail) rfl rfl) ?_
                first | refine LJ_y rfl rfl (YJ_loadN (vs := [_, _]) rfl tyi_53 (by repeat first | exact .head _ | apply List.Mem.tail) rfl rfl) ?_ | refine LJ_y rfl rfl (YJ_loadFactN (vs := [_, _]) rfl tyi_53 (by repeat first | exact .head _ | apply List.Mem.tail) rfl rfl) ?_
                first | refine LJ_y rfl rfl (YJ_loadN (vs := [_, _]) rfl tyi_53 (by repeat first | exact .head _ | apply List.Mem.tail) rfl rfl) ?_ | refine LJ_y rfl rfl (YJ_loadFactN (vs := [_, _]) rfl tyi_53 (by repeat first | exact .head _ | apply List.Mem.tail) rfl rfl) ?_
                first | refine LJ_y rfl rfl (YJ_loadN (vs := [_, _]) rfl tyi_53 (by repeat first | exact .head _ | apply List.Mem.tail) rfl rfl) ?_ | refine LJ_y rfl rfl (YJ_loadFactN (vs := [_, _]) rfl tyi_53 (by repeat first | exact .head _ | apply List.Mem.tail) rfl rfl) ?_
                refine LJ_call0 rfl rfl rfl rfl rfl (circle_c ha hc he hp) (AllIn.sub (by first | exact trivial | exact And.intro (by repeat first | exact .head _ | apply List.Mem.tail) trivial | exact And.intro (by repeat first | exact .head _ | apply List.Mem.tail) (And.intro (by repeat first | exact .head _ | apply List.Mem.tail) trivial))) ?_
                refine LJ_y rfl rfl (YJ_bin rfl rfl rfl) ?_
                refine LJ_y rfl rfl (YJ_pickF rfl rfl) ?_
                refine LJ_y rfl rfl (YJ_move rfl) ?_
                refine LJ_boolC (fun h125 => ?_) (fun h125 => ?_)
                · try simp only [decide_eq_true_eq, decide_eq_false_iff_not, Bool.not_eq_true', Bool.not_eq_false', Bool.and_eq_true, Bool.and_eq_false_iff, beq_iff_eq, bne_iff_ne, beq_eq_false_iff_ne, bne_eq_false_iff_eq, ne_eq, decide_eq_decide] at h125
                  refine LJ_skip rfl rfl ?_
                  refine LJ_skip rfl rfl ?_
                  refine LJ_skip rfl rfl ?_
                  refine LJ_skip rfl rfl ?_
                  refine LJ_skip rfl rfl ?_
                  refine LJ_skip rfl rfl ?_
                  refine LJ_skip rfl rfl ?_
                  refine LJ_skip rfl rfl ?_
                  refine LJ_skip rfl rfl ?_
                  refine LJ_y rfl rfl (YJ_pickT rfl rfl) ?_
                  refine LJ_y rfl rfl (YJ_assign rfl) ?_
                  refine LJ_nil ?_
                  refine QJ_then ?_
                  refine CJ_ret ?_
                  refine QJ_fin (.inl rfl) (μ' := []) (μr := _) (φ' := []) (res_tmp rfl rfl) (List.Perm.refl _) (fun _ h => nomatch h) ?_
                  exact ⟨rfl, rfl, rfl⟩
                · try simp only [decide_eq_true_eq, decide_eq_false_iff_not, Bool.not_eq_true', Bool.not_eq_false', Bool.and_eq_true, Bool.and_eq_false_iff, beq_iff_eq, bne_iff_ne, beq_eq_false_iff_ne, bne_eq_false_iff_eq, ne_eq, decide_eq_decide] at h125
                  refine LJ_y rfl rfl (YJ_move rfl) ?_
                  refine LJ_y rfl rfl (YJ_move rfl) ?_
                  first | refine LJ_y rfl rfl (YJ_loadN (vs := [_, _]) rfl tyi_53 (by repeat first | exact .head _ | apply List.Mem.tail) rfl rfl) ?_ | refine LJ_y rfl rfl (YJ_loadFactN (vs := [_, _]) rfl tyi_53 (by repeat first | exact .head _ | apply List.Mem.tail) rfl rfl) ?_
                  first | refine LJ_y rfl rfl (YJ_loadN (vs := [_, _]) rfl tyi_53 (by repeat first | exact .head _ | apply List.Mem.tail) rfl rfl) ?_ | refine LJ_y rfl rfl (YJ_loadFactN (vs := [_, _]) rfl tyi_53 (by repeat first | exact .head _ | apply List.Mem.tail) rfl rfl) ?_
                  first | refine LJ_y rfl rfl (YJ_loadN (vs := [_, _]) rfl tyi_53 (by repeat first | exact .head _ | apply List.Mem.tail) rfl rfl) ?_ | refine LJ_y rfl rfl (YJ_loadFactN (vs := [_, _]) rfl tyi_53 (by repeat first | exact .head _ | apply List.Mem.tail) rfl rfl) ?_
                  first | refine LJ_y rfl rfl (YJ_loadN (vs := [_, _]) rfl tyi_53 (by repeat first | exact .head _ | apply List.Mem.tail) rfl rfl) ?_ | refine LJ_y rfl rfl (YJ_loadFactN (vs := [_, _]) rfl tyi_53 (by repeat first | exact .head _ | apply List.Mem.tail) rfl rfl) ?_
                  refine LJ_call0 rfl rfl rfl rfl rfl (circle_c ha hc he hp) (AllIn.sub (by first | exact trivial | exact And.intro (by repeat first | exact .head _ | apply List.Mem.tail) trivial | exact And.intro (by repeat first | exact .head _ | apply List.Mem.tail) (And.intro (by repeat first | exact .head _ | apply List.Mem.tail) trivial))) ?_
                  refine LJ_y rfl rfl (YJ_bin rfl rfl rfl) ?_
                  refine LJ_val (v := .bool true) (congrArg Value.bool (decide_eq_true (by rcases hci h117 with h | h; exact h.2; exact absurd h.2 h125))) ?_
                  refine LJ_y rfl rfl (YJ_pickT rfl rfl) ?_
                  refine LJ_y rfl rfl (YJ_pickF rfl rfl) ?_
                  refine LJ_y rfl rfl (YJ_assign rfl) ?_
                  refine LJ_nil ?_
                  refine QJ_then ?_
                  refine CJ_ret ?_
                  refine QJ_fin (.inl rfl) (μ' := []) (μr := _) (φ' := []) (res_tmp rfl rfl) (List.Perm.refl _) (fun _ h => nomatch h) ?_
                  exact ⟨rfl, rfl, rfl⟩
            · try simp only [decide_eq_true_eq, decide_eq_false_iff_not, Bool.not_eq_true', Bool.not_eq_false', Bool.and_eq_true, Bool.and_eq_false_iff, beq_iff_eq, bne_iff_ne, beq_eq_false_iff_ne, bne_eq_false_iff_eq, ne_eq, decide_eq_decide] at h110
              first | refine LJ_y rfl rfl (YJ_loadN (vs := [_, _]) rfl tyi_53 (by repeat first | exact .head _ | apply List.Mem.tail) rfl rfl) ?_ | refine LJ_y rfl rfl (YJ_loadFactN (vs := [_, _]) rfl tyi_53 (by repeat first | exact .head _ | apply List.Mem.tail) rfl rfl) ?_
              first | refine LJ_y rfl rfl (YJ_loadN (vs := [_, _]) rfl tyi_53 (by repeat first | exact .head _ | apply List.Mem.tail) rfl rfl) ?_ | refine LJ_y rfl rfl (YJ_loadFactN (vs := [_, _]) rfl tyi_53 (by repeat first | exact .head _ | apply List.Mem.tail) rfl rfl) ?_
              refine LJ_y rfl rfl (YJ_eqs rfl rfl (fun _ => eqs_eql_53 ..)) ?_
              refine LJ_y rfl rfl (YJ_pickF rfl rfl) ?_
              refine LJ_y rfl rfl (YJ_assign rfl) ?_
              refine LJ_nil ?_
              refine QJ_then ?_
              refine CJ_seq ?_
              refine CJ_reg ?_
              refine LJ_y rfl rfl (YJ_move rfl) ?_
              refine LJ_y rfl rfl (YJ_not rfl) ?_
              refine LJ_y rfl rfl (YJ_move rfl) ?_
              refine LJ_boolC (fun h117 => ?_) (fun h117 => ?_)
              · try simp only [decide_eq_true_eq, decide_eq_false_iff_not, Bool.not_eq_true', Bool.not_eq_false', Bool.and_eq_true, Bool.and_eq_false_iff, beq_iff_eq, bne_iff_ne, beq_eq_false_iff_ne, bne_eq_false_iff_eq, ne_eq, decide_eq_decide] at h117
                refine LJ_skip rfl rfl ?_
                refine LJ_skip rfl rfl ?_
                refine LJ_skip rfl rfl ?_
                refine LJ_skip rfl rfl ?_
                refine LJ_skip rfl rfl ?_
                refine LJ_skip rfl rfl ?_
                refine LJ_y rfl rfl (YJ_pickT rfl rfl) ?_
                refine LJ_y rfl rfl (YJ_move rfl) ?_
                refine LJ_skip rfl rfl ?_
                refine LJ_skip rfl rfl ?_
                refine LJ_skip rfl rfl ?_
                refine LJ_skip rfl rfl ?_
                refine LJ_skip rfl rfl ?_
                refine LJ_skip rfl rfl ?_
                refine LJ_skip rfl rfl ?_
                refine LJ_skip rfl rfl ?_
                refine LJ_skip rfl rfl ?_
                refine LJ_y rfl rfl (YJ_pickT rfl rfl) ?_
                refine LJ_y rfl rfl (YJ_assign rfl) ?_
                refine LJ_nil ?_
                refine QJ_then ?_
                refine CJ_ret ?_
                refine QJ_fin (.inl rfl) (μ' := []) (μr := _) (φ' := []) (res_tmp rfl rfl) (List.Perm.refl _) (fun _ h => nomatch h) ?_
                exact ⟨rfl, rfl, rfl⟩
              · try simp only [decide_eq_true_eq, decide_eq_false_iff_not, Bool.not_eq_true', Bool.not_eq_false', Bool.and_eq_true, Bool.and_eq_false_iff, beq_iff_eq, bne_iff_ne, beq_eq_false_iff_ne, bne_eq_false_iff_eq, ne_eq, decide_eq_decide] at h117
                first | refine LJ_y rfl rfl (YJ_loadN (vs := [_, _]) rfl tyi_53 (by repeat first | exact .head _ | apply List.Mem.tail) rfl rfl) ?_ | refine LJ_y rfl rfl (YJ_loadFactN (vs := [_, _]) rfl tyi_53 (by repeat first | exact .head _ | apply List.Mem.tail) rfl rfl) ?_
                first | refine LJ_y rfl rfl (YJ_loadN (vs := [_, _]) rfl tyi_53 (by repeat first | exact .head _ | apply List.Mem.tail) rfl rfl) ?_ | refine LJ_y rfl rfl (YJ_loadFactN (vs := [_, _]) rfl tyi_53 (by repeat first | exact .head _ | apply List.Mem.tail) rfl rfl) ?_
                first | refine LJ_y rfl rfl (YJ_loadN (vs := [_, _]) rfl tyi_53 (by repeat first | exact .head _ | apply List.Mem.tail) rfl rfl) ?_ | refine LJ_y rfl rfl (YJ_loadFactN (vs := [_, _]) rfl tyi_53 (by repeat first | exact .head _ | apply List.Mem.tail) rfl rfl) ?_
                first | refine LJ_y rfl rfl (YJ_loadN (vs := [_, _]) rfl tyi_53 (by repeat first | exact .head _ | apply List.Mem.tail) rfl rfl) ?_ | refine LJ_y rfl rfl (YJ_loadFactN (vs := [_, _]) rfl tyi_53 (by repeat first | exact .head _ | apply List.Mem.tail) rfl rfl) ?_
                refine LJ_call0 rfl rfl rfl rfl rfl (circle_c ha hc he hp) (AllIn.sub (by first | exact trivial | exact And.intro (by repeat first | exact .head _ | apply List.Mem.tail) trivial | exact And.intro (by repeat first | exact .head _ | apply List.Mem.tail) (And.intro (by repeat first | exact .head _ | apply List.Mem.tail) trivial))) ?_
                refine LJ_y rfl rfl (YJ_bin rfl rfl rfl) ?_
                refine LJ_y rfl rfl (YJ_pickF rfl rfl) ?_
                refine LJ_y rfl rfl (YJ_move rfl) ?_
                refine LJ_boolC (fun h125 => ?_) (fun h125 => ?_)
                · try simp only [decide_eq_true_eq, decide_eq_false_iff_not, Bool.not_eq_true', Bool.not_eq_false', Bool.and_eq_true, Bool.and_eq_false_iff, beq_iff_eq, bne_iff_ne, beq_eq_false_iff_ne, bne_eq_false_iff_eq, ne_eq, decide_eq_decide] at h125
                  refine LJ_skip rfl rfl ?_
                  refine LJ_skip rfl rfl ?_
                  refine LJ_skip rfl rfl ?_
                  refine LJ_skip rfl rfl ?_
                  refine LJ_skip rfl rfl ?_
                  refine LJ_skip rfl rfl ?_
                  refine LJ_skip rfl rfl ?_
                  refine LJ_skip rfl rfl ?_
                  refine LJ_skip rfl rfl ?_
                  refine LJ_y rfl rfl (YJ_pickT rfl rfl) ?_
                  refine LJ_y rfl rfl (YJ_assign rfl) ?_
                  refine LJ_nil ?_
                  refine QJ_then ?_
                  refine CJ_ret ?_
                  refine QJ_fin (.inl rfl) (μ' := []) (μr := _) (φ' := []) (res_tmp rfl rfl) (List.Perm.refl _) (fun _ h => nomatch h) ?_
                  exact ⟨rfl, rfl, rfl⟩
                · try simp only [decide_eq_true_eq, decide_eq_false_iff_not, Bool.not_eq_true', Bool.not_eq_false', Bool.and_eq_true, Bool.and_eq_false_iff, beq_iff_eq, bne_iff_ne, beq_eq_false_iff_ne, bne_eq_false_iff_eq, ne_eq, decide_eq_decide] at h125
                  refine LJ_y rfl rfl (YJ_move rfl) ?_
                  refine LJ_y rfl rfl (YJ_move rfl) ?_
                  refine LJ_boolC (fun h127 => ?_) (fun h127 => ?_)
                  · try simp only [decide_eq_true_eq, decide_eq_false_iff_not, Bool.not_eq_true', Bool.not_eq_false', Bool.and_eq_true, Bool.and_eq_false_iff, beq_iff_eq, bne_iff_ne, beq_eq_false_iff_ne, bne_eq_false_iff_eq, ne_eq, decide_eq_decide] at h127
                    first | refine LJ_y rfl rfl (YJ_loadN (vs := [_, _]) rfl tyi_53 (by repeat first | exact .head _ | apply List.Mem.tail) rfl rfl) ?_ | refine LJ_y rfl rfl (YJ_loadFactN (vs := [_, _]) rfl tyi_53 (by repeat first | exact .head _ | apply List.Mem.tail) rfl rfl) ?_
                    first | refine LJ_y rfl rfl (YJ_loadN (vs := [_, _]) rfl tyi_53 (by repeat first | exact .head _ | apply List.Mem.tail) rfl rfl) ?_ | refine LJ_y rfl rfl (YJ_loadFactN (vs := [_, _]) rfl tyi_53 (by repeat first | exact .head _ | apply List.Mem.tail) rfl rfl) ?_
                    first | refine LJ_y rfl rfl (YJ_loadN (vs := [_, _]) rfl tyi_53 (by repeat first | exact .head _ | apply List.Mem.tail) rfl rfl) ?_ | refine LJ_y rfl rfl (YJ_loadFactN (vs := [_, _]) rfl tyi_53 (by repeat first | exact .head _ | apply List.Mem.tail) rfl rfl) ?_
                    first | refine LJ_y rfl rfl (YJ_loadN (vs := [_, _]) rfl tyi_53 (by repeat first | exact .head _ | apply List.Mem.tail) rfl rfl) ?_ | refine LJ_y rfl rfl (YJ_loadFactN (vs := [_, _]) rfl tyi_53 (by repeat first | exact .head _ | apply List.Mem.tail) rfl rfl) ?_
                    refine LJ_call0 rfl rfl rfl rfl rfl (circle_c ha hc he hp) (AllIn.sub (by first | exact trivial | exact And.intro (by repeat first | exact .head _ | apply List.Mem.tail) trivial | exact And.intro (by repeat first | exact .head _ | apply List.Mem.tail) (And.intro (by repeat first | exact .head _ | apply List.Mem.tail) trivial))) ?_
                    refine LJ_y rfl rfl (YJ_bin rfl rfl rfl) ?_
                    refine LJ_val (v := .bool true) (congrArg Value.bool (decide_eq_true (by rcases hci h117 with h | h; exact h.2; exact absurd h.2 h125))) ?_
                    refine LJ_y rfl rfl (YJ_pickT rfl rfl) ?_
                    refine LJ_y rfl rfl (YJ_pickF rfl rfl) ?_
                    refine LJ_y rfl rfl (YJ_assign rfl) ?_
                    refine LJ_nil ?_
                    refine QJ_then ?_
                    refine CJ_ret ?_
                    refine QJ_fin (.inl rfl) (μ' := []) (μr := _) (φ' := []) (res_tmp rfl rfl) (List.Perm.refl _) (fun _ h => nomatch h) ?_
                    exact ⟨rfl, rfl, rfl⟩
                  · try simp only [decide_eq_true_eq, decide_eq_false_iff_not, Bool.not_eq_true', Bool.not_eq_false', Bool.and_eq_true, Bool.and_eq_false_iff, beq_iff_eq, bne_iff_ne, beq_eq_false_iff_ne, bne_eq_false_iff_eq, ne_eq, decide_eq_decide] at h127
                    exfalso
                    rcases hci h117 with ⟨hc2, -⟩ | ⟨-, h1⟩
                    · omega
                    · exact absurd h1 h125
        · try simp only [decide_eq_true_eq, decide_eq_false_iff_not, Bool.not_eq_true', Bool.not_eq_false', Bool.and_eq_true, Bool.and_eq_false_iff, beq_iff_eq, bne_iff_ne, beq_eq_false_iff_ne, bne_eq_false_iff_eq, ne_eq, decide_eq_decide] at h87
          first | refine AJ_y 20 rfl (by kernel_rfl) (by kernel_rfl) rfl rfl (YJ_loadN (vs := [_, _]) rfl tyi_53 (by repeat first | exact .head _ | apply List.Mem.tail) rfl rfl) ?_ | refine AJ_y 20 rfl (by kernel_rfl) (by kernel_rfl) rfl rfl (YJ_loadFactN (vs := [_, _]) rfl tyi_53 (by repeat first | exact .head _ | apply List.Mem.tail) rfl rfl) ?_
          first | refine AJ_y 21 rfl (by kernel_rfl) (by kernel_rfl) rfl rfl (YJ_loadN (vs := [_, _]) rfl tyi_53 (by repeat first | exact .head _ | apply List.Mem.tail) rfl rfl) ?_ | refine AJ_y 21 rfl (by kernel_rfl) (by kernel_rfl) rfl rfl (YJ_loadFactN (vs := [_, _]) rfl tyi_53 (by repeat first | exact .head _ | apply List.Mem.tail) rfl rfl) ?_
          first | refine AJ_y 22 rfl (by kernel_rfl) (by kernel_rfl) rfl rfl (YJ_loadN (vs := [_, _]) rfl tyi_53 (by repeat first | exact .head _ | apply List.Mem.tail) rfl rfl) ?_ | refine AJ_y 22 rfl (by kernel_rfl) (by kernel_rfl) rfl rfl (YJ_loadFactN (vs := [_, _]) rfl tyi_53 (by repeat first | exact .head _ | apply List.Mem.tail) rfl rfl) ?_
          refine AJ_call0 23 rfl (by kernel_rfl) rfl rfl rfl rfl rfl (on_c hp he ha) (AllIn.sub (by first | exact trivial | exact And.intro (by repeat first | exact .head _ | apply List.Mem.tail) trivial | exact And.intro (by repeat first | exact .head _ | apply List.Mem.tail) (And.intro (by repeat first | exact .head _ | apply List.Mem.tail) trivial))) ?_
          refine AJ_y 24 rfl (by kernel_rfl) (by kernel_rfl) rfl rfl (YJ_pickF rfl rfl) ?_
          refine AJ_y 25 rfl (by kernel_rfl) (by kernel_rfl) rfl rfl (YJ_move rfl) ?_
          refine AJ_boolC (fun h93 => ?_) (fun h93 => ?_)
          · try simp only [decide_eq_true_eq, decide_eq_false_iff_not, Bool.not_eq_true', Bool.not_eq_false', Bool.and_eq_true, Bool.and_eq_false_iff, beq_iff_eq, bne_iff_ne, beq_eq_false_iff_ne, bne_eq_false_iff_eq, ne_eq, decide_eq_decide] at h93
            refine AJ_skip 26 rfl (by kernel_rfl) (by kernel_rfl) rfl rfl ?_
            refine AJ_skip 27 rfl (by kernel_rfl) (by kernel_rfl) rfl rfl ?_
            refine AJ_skip 28 rfl (by kernel_rfl) (by kernel_rfl) rfl rfl ?_
            refine AJ_skip 29 rfl (by kernel_rfl) (by kernel_rfl) rfl rfl ?_
            refine AJ_skip 30 rfl (by kernel_rfl) (by kernel_rfl) rfl rfl ?_
            refine AJ_y 31 rfl (by kernel_rfl) (by kernel_rfl) rfl rfl (YJ_pickT rfl rfl) ?_
            refine AJ_y 32 rfl (by kernel_rfl) (by kernel_rfl) rfl rfl (YJ_neb rfl rfl ubool_4) ?_
            refine AJ_val (v := .bool false) (congrArg Value.bool (by first | (rw [bne_eq_false_iff_eq, decide_eq_true_iff]; rw [hin]; simp only [*, true_or, or_true]) | (rw [bne_eq_false_iff_eq, decide_eq_decide]; rw [hin]; simp only [*, false_or]))) ?_
            refine AJ_y 33 rfl (by kernel_rfl) (by kernel_rfl) rfl rfl (YJ_pickF rfl rfl) ?_
            refine AJ_done (by kernel_rfl) ?_
            refine QJ_then ?_
            refine CJ_condF rfl ?_
            refine CJ_skip ?_
            refine QJ_then ?_
            refine CJ_seq ?_
            refine CJ_reg ?_
            first | refine LJ_y rfl rfl (YJ_loadN (vs := [_, _]) rfl tyi_53 (by repeat first | exact .head _ | apply List.Mem.tail) rfl rfl) ?_ | refine LJ_y rfl rfl (YJ_loadFactN (vs := [_, _]) rfl tyi_53 (by repeat first | exact .head _ | apply List.Mem.tail) rfl rfl) ?_
            first | refine LJ_y rfl rfl (YJ_loadN (vs := [_, _]) rfl tyi_53 (by repeat first | exact .head _ | apply List.Mem.tail) rfl rfl) ?_ | refine LJ_y rfl rfl (YJ_loadFactN (vs := [_, _]) rfl tyi_53 (by repeat first | exact .head _ | apply List.Mem.tail) rfl rfl) ?_
            refine LJ_y rfl rfl (YJ_eqs rfl rfl (fun _ => eqs_eql_53 ..)) ?_
            refine LJ_y rfl rfl (YJ_move rfl) ?_
            refine LJ_boolC (fun h105 => ?_) (fun h105 => ?_)
            · try simp only [decide_eq_true_eq, decide_eq_false_iff_not, Bool.not_eq_true', Bool.not_eq_false', Bool.and_eq_true, Bool.and_eq_false_iff, beq_iff_eq, bne_iff_ne, beq_eq_false_iff_ne, bne_eq_false_iff_eq, ne_eq, decide_eq_decide] at h105
              refine LJ_skip rfl rfl ?_
              refine LJ_skip rfl rfl ?_
              refine LJ_skip rfl rfl ?_
              refine LJ_y rfl rfl (YJ_pickT rfl rfl) ?_
              refine LJ_y rfl rfl (YJ_move rfl) ?_
              refine LJ_skip rfl rfl ?_
              refine LJ_skip rfl rfl ?_
              refine LJ_skip rfl rfl ?_
              refine LJ_y rfl rfl (YJ_pickT rfl rfl) ?_
              refine LJ_y rfl rfl (YJ_assign rfl) ?_
              refine LJ_nil ?_
              refine QJ_then ?_
              refine CJ_seq ?_
              refine CJ_reg ?_
              refine LJ_y rfl rfl (YJ_move rfl) ?_
              refine LJ_y rfl rfl (YJ_not rfl) ?_
              refine LJ_y rfl rfl (YJ_move rfl) ?_
              refine LJ_boolC (fun h117 => ?_) (fun h117 => ?_)
              · try simp only [decide_eq_true_eq, decide_eq_false_iff_not, Bool.not_eq_true', Bool.not_eq_false', Bool.and_eq_true, Bool.and_eq_false_iff, beq_iff_eq, bne_iff_ne, beq_eq_false_iff_ne, bne_eq_false_iff_eq, ne_eq, decide_eq_decide] at h117
                refine LJ_skip rfl rfl ?_
                refine LJ_skip rfl rfl ?_
                refine LJ_skip rfl rfl ?_
                refine LJ_skip rfl rfl ?_
                refine LJ_skip rfl rfl ?_
                refine LJ_skip rfl rfl ?_
                refine LJ_y rfl rfl (YJ_pickT rfl rfl) ?_
                refine LJ_y rfl rfl (YJ_move rfl) ?_
                refine LJ_skip rfl rfl ?_
                refine LJ_skip rfl rfl ?_
                refine LJ_skip rfl rfl ?_
                refine LJ_skip rfl rfl ?_
                refine LJ_skip rfl rfl ?_
                refine LJ_skip rfl rfl ?_
                refine LJ_skip rfl rfl ?_
                refine LJ_skip rfl rfl ?_
                refine LJ_skip rfl rfl ?_
                refine LJ_y rfl rfl (YJ_pickT rfl rfl) ?_
                refine LJ_y rfl rfl (YJ_assign rfl) ?_
                refine LJ_nil ?_
                refine QJ_then ?_
                refine CJ_ret ?_
                refine QJ_fin (.inl rfl) (μ' := []) (μr := _) (φ' := []) (res_tmp rfl rfl) (List.Perm.refl _) (fun _ h => nomatch h) ?_
                exact ⟨rfl, rfl, rfl⟩
              · try simp only [decide_eq_true_eq, decide_eq_false_iff_not, Bool.not_eq_true', Bool.not_eq_false', Bool.and_eq_true, Bool.and_eq_false_iff, beq_iff_eq, bne_iff_ne, beq_eq_false_iff_ne, bne_eq_false_iff_eq, ne_eq, decide_eq_decide] at h117
                first | refine LJ_y rfl rfl (YJ_loadN (vs := [_, _]) rfl tyi_53 (by repeat first | exact .head _ | apply List.Mem.tail) rfl rfl) ?_ | refine LJ_y rfl rfl (YJ_loadFactN (vs := [_, _]) rfl tyi_53 (by repeat first | exact .head _ | apply List.Mem.tail) rfl rfl) ?_
                first | refine LJ_y rfl rfl (YJ_loadN (vs := [_, _]) rfl tyi_53 (by repeat first | exact .head _ | apply List.Mem.tail) rfl rfl) ?_ | refine LJ_y rfl rfl (YJ_loadFactN (vs := [_, _]) rfl tyi_53 (by repeat first | exact .head _ | apply List.Mem.tail) rfl rfl) ?_
                first | refine LJ_y rfl rfl (YJ_loadN (vs := [_, _]) rfl tyi_53 (by repeat first | exact .head _ | apply List.Mem.tail) rfl rfl) ?_ | refine LJ_y rfl rfl (YJ_loadFactN (vs := [_, _]) rfl tyi_53 (by repeat first | exact .head _ | apply List.Mem.tail) rfl rfl) ?_
                first | refine LJ_y rfl rfl (YJ_loadN (vs := [_, _]) rfl tyi_53 (by repeat first | exact .head _ | apply List.Mem.tail) rfl rfl) ?_ | refine LJ_y rfl rfl (YJ_loadFactN (vs := [_, _]) rfl tyi_53 (by repeat first | exact .head _ | apply List.Mem.tail) rfl rfl) ?_
                refine LJ_call0 rfl rfl rfl rfl rfl (circle_c ha hc he hp) (AllIn.sub (by first | exact trivial | exact And.intro (by repeat first | exact .head _ | apply List.Mem.tail) trivial | exact And.intro (by repeat first | exact .head _ | apply List.Mem.tail) (And.intro (by repeat first | exact .head _ | apply List.Mem.tail) trivial))) ?_
                refine LJ_y rfl rfl (YJ_bin rfl rfl rfl) ?_
                refine LJ_y rfl rfl (YJ_pickF rfl rfl) ?_
                refine LJ_y rfl rfl (YJ_move rfl) ?_
                refine LJ_boolC (fun h125 => ?_) (fun h125 => ?_)
                · try simp only [decide_eq_true_eq, decide_eq_false_iff_not, Bool.not_eq_true', Bool.not_eq_false', Bool.and_eq_true, Bool.and_eq_false_iff, beq_iff_eq, bne_iff_ne, beq_eq_false_iff_ne, bne_eq_false_iff_eq, ne_eq, decide_eq_decide] at h125
                  refine LJ_skip rfl rfl ?_
                  refine LJ_skip rfl rfl ?_
                  refine LJ_skip rfl rfl ?_
                  refine LJ_skip rfl rfl ?_
                  refine LJ_skip rfl rfl ?_
                  refine LJ_skip rfl rfl ?_
                  refine LJ_skip rfl rfl ?_
                  refine LJ_skip rfl rfl ?_
                  refine LJ_skip rfl rfl ?_
                  refine LJ_y rfl rfl (YJ_pickT rfl rfl) ?_
                  refine LJ_y rfl rfl (YJ_assign rfl) ?_
                  refine LJ_nil ?_
                  refine QJ_then ?_
                  refine CJ_ret ?_
                  refine QJ_fin (.inl rfl) (μ' := []) (μr := _) (φ' := []) (res_tmp rfl rfl) (List.Perm.refl _) (fun _ h => nomatch h) ?_
                  exact ⟨rfl, rfl, rfl⟩
                · try simp only [decide_eq_true_eq, decide_eq_false_iff_not, Bool.not_eq_true', Bool.not_eq_false', Bool.and_eq_true, Bool.and_eq_false_iff, beq_iff_eq, bne_iff_ne, beq_eq_false_iff_ne, bne_eq_false_iff_eq, ne_eq, decide_eq_decide] at h125
                  refine LJ_y rfl rfl (YJ_move rfl) ?_
                  refine LJ_y rfl rfl (YJ_move rfl) ?_
                  first | refine LJ_y rfl rfl (YJ_loadN (vs := [_, _]) rfl tyi_53 (by repeat first | exact .head _ | apply List.Mem.tail) rfl rfl) ?_ | refine LJ_y rfl rfl (YJ_loadFactN (vs := [_, _]) rfl tyi_53 (by repeat first | exact .head _ | apply List.Mem.tail) rfl rfl) ?_
                  first | refine LJ_y rfl rfl (YJ_loadN (vs := [_, _]) rfl tyi_53 (by repeat first | exact .head _ | apply List.Mem.tail) rfl rfl) ?_ | refine LJ_y rfl rfl (YJ_loadFactN (vs := [_, _]) rfl tyi_53 (by repeat first | exact .head _ | apply List.Mem.tail) rfl rfl) ?_
                  first | refine LJ_y rfl rfl (YJ_loadN (vs := [_, _]) rfl tyi_53 (by repeat first | exact .head _ | apply List.Mem.tail) rfl rfl) ?_ | refine LJ_y rfl rfl (YJ_loadFactN (vs := [_, _]) rfl tyi_53 (by repeat first | exact .head _ | apply List.Mem.tail) rfl rfl) ?_
                  first | refine LJ_y rfl rfl (YJ_loadN (vs := [_, _]) rfl tyi_53 (by repeat first | exact .head _ | apply List.Mem.tail) rfl rfl) ?_ | refine LJ_y rfl rfl (YJ_loadFactN (vs := [_, _]) rfl tyi_53 (by repeat first | exact .head _ | apply List.Mem.tail) rfl rfl) ?_
                  refine LJ_call0 rfl rfl rfl rfl rfl (circle_c ha hc he hp) (AllIn.sub (by first | exact trivial | exact And.intro (by repeat first | exact .head _ | apply List.Mem.tail) trivial | exact And.intro (by repeat first | exact .head _ | apply List.Mem.tail) (And.intro (by repeat first | exact .head _ | apply List.Mem.tail) trivial))) ?_
                  refine LJ_y rfl rfl (YJ_bin rfl rfl rfl) ?_
                  refine LJ_val (v := .bool true) (congrArg Value.bool (decide_eq_true (by rcases hci h117 with h | h; exact h.2; exact absurd h.2 h125))) ?_
                  refine LJ_y rfl rfl (YJ_pickT rfl rfl) ?_
                  refine LJ_y rfl rfl (YJ_pickF rfl rfl) ?_
                  refine LJ_y rfl rfl (YJ_assign rfl) ?_
                  refine LJ_nil ?_
                  refine QJ_then ?_
                  refine CJ_ret ?_
                  refine QJ_fin (.inl rfl) (μ' := []) (μr := _) (φ' := []) (res_tmp rfl rfl) (List.Perm.refl _) (fun _ h => nomatch h) ?_
                  exact ⟨rfl, rfl, rfl⟩
            · try simp only [decide_eq_true_eq, decide_eq_false_iff_not, Bool.not_eq_true', Bool.not_eq_false', Bool.and_eq_true, Bool.and_eq_false_iff, beq_iff_eq, bne_iff_ne, beq_eq_false_iff_ne, bne_eq_false_iff_eq, ne_eq, decide_eq_decide] at h105
              first | refine LJ_y rfl rfl (YJ_loadN (vs := [_, _]) rfl tyi_53 (by repeat first | exact .head _ | apply List.Mem.tail) rfl rfl) ?_ | refine LJ_y rfl rfl (YJ_loadFactN (vs := [_, _]) rfl tyi_53 (by repeat first | exact .head _ | apply List.Mem.tail) rfl rfl) ?_
              first | refine LJ_y rfl rfl (YJ_loadN (vs := [_, _]) rfl tyi_53 (by repeat first | exact .head _ | apply List.Mem.tail) rfl rfl) ?_ | refine LJ_y rfl rfl (YJ_loadFactN (vs := [_, _]) rfl tyi_53 (by repeat first | exact .head _ | apply List.Mem.tail) rfl rfl) ?_
              refine LJ_y rfl rfl (YJ_eqs rfl rfl (fun _ => eqs_eql_53 ..)) ?_
              refine LJ_y rfl rfl (YJ_pickF rfl rfl) ?_
              refine LJ_y rfl rfl (YJ_move rfl) ?_
              refine LJ_boolC (fun h110 => ?_) (fun h110 => ?_)
              · try simp only [decide_eq_true_eq, decide_eq_false_iff_not, Bool.not_eq_true', Bool.not_eq_false', Bool.and_eq_true, Bool.and_eq_false_iff, beq_iff_eq, bne_iff_ne, beq_eq_false_iff_ne, bne_eq_false_iff_eq, ne_eq, decide_eq_decide] at h110
                refine LJ_skip rfl rfl ?_
                refine LJ_skip rfl rfl ?_
                refine LJ_skip rfl rfl ?_
                refine LJ_y rfl rfl (YJ_pickT rfl rfl) ?_
                refine LJ_y rfl rfl (YJ_assign rfl) ?_
                refine LJ_nil ?_
                refine QJ_then ?_
                refine CJ_seq ?_
                refine CJ_reg ?_
                refine LJ_y rfl rfl (YJ_move rfl) ?_
                refine LJ_y rfl rfl (YJ_not rfl) ?_
                refine LJ_y rfl rfl (YJ_move rfl) ?_
                refine LJ_boolC (fun h117 => ?_) (fun h117 => ?_)
                · try simp only [decide_eq_true_eq, decide_eq_false_iff_not, Bool.not_eq_true', Bool.not_eq_false', Bool.and_eq_true, Bool.and_eq_false_iff, beq_iff_eq, bne_iff_ne, beq_eq_false_iff_ne, bne_eq_false_iff_eq, ne_eq, decide_eq_decide] at h117
                  refine LJ_skip rfl rfl ?_
                  refine LJ_skip rfl rfl ?_
                  refine LJ_skip rfl rfl ?_
                  refine LJ_skip rfl rfl ?_
                  refine LJ_skip rfl rfl ?_
                  refine LJ_skip rfl rfl ?_
                  refine LJ_y rfl rfl (YJ_pickT rfl rfl) ?_
                  refine LJ_y rfl rfl (YJ_move rfl) ?_
                  refine LJ_skip rfl rfl ?_
                  refine LJ_skip rfl rfl ?_
                  refine LJ_skip rfl rfl ?_
                  refine LJ_skip rfl rfl ?_
                  refine LJ_skip rfl rfl ?_
                  refine LJ_skip rfl rfl ?_
                  refine LJ_skip rfl rfl ?_
                  refine LJ_skip rfl rfl ?_
                  refine LJ_skip rfl rfl ?_
                  refine LJ_y rfl rfl (YJ_pickT rfl rfl) ?_
                  refine LJ_y rfl rfl (YJ_assign rfl) ?_
                  refine LJ_nil ?_
                  refine QJ_then ?_
                  refine CJ_ret ?_
                  refine QJ_fin (.inl rfl) (μ' := []) (μr := _) (φ' := []) (res_tmp rfl rfl) (List.Perm.refl _) (fun _ h => nomatch h) ?_
                  exact ⟨rfl, rfl, rfl⟩
                · try simp only [decide_eq_true_eq, decide_eq_false_iff_not, Bool.not_eq_true', Bool.not_eq_false', Bool.and_eq_true, Bool.and_eq_false_iff, beq_iff_eq, bne_iff_ne, beq_eq_false_iff_ne, bne_eq_false_iff_eq, ne_eq, decide_eq_decide] at h117
                  first | refine LJ_y rfl rfl (YJ_loadN (vs := [_, _]) rfl tyi_53 (by repeat first | exact .head _ | apply List.Mem.tail) rfl rfl) ?_ | refine LJ_y rfl rfl (YJ_loadFactN (vs := [_, _]) rfl tyi_53 (by repeat first | exact .head _ | apply List.Mem.tail) rfl rfl) ?_
                  first | refine LJ_y rfl rfl (YJ_loadN (vs := [_, _]) rfl tyi_53 (by repeat first | exact .head _ | apply List.Mem.tail) rfl rfl) ?_ | refine LJ_y rfl rfl (YJ_loadFactN (vs := [_, _]) rfl tyi_53 (by repeat first | exact .head _ | apply List.Mem.tail) rfl rfl) ?_
                  first | refine LJ_y rfl rfl (YJ_loadN (vs := [_, _]) rfl tyi_53 (by repeat first | exact .head _ | apply List.Mem.tail) rfl rfl) ?_ | refine LJ_y rfl rfl (YJ_loadFactN (vs := [_, _]) rfl tyi_53 (by repeat first | exact .head _ | apply List.Mem.tail) rfl rfl) ?_
                  first | refine LJ_y rfl rfl (YJ_loadN (vs := [_, _]) rfl tyi_53 (by repeat first | exact .head _ | apply List.Mem.tail) rfl rfl) ?_ | refine LJ_y rfl rfl (YJ_loadFactN (vs := [_, _]) rfl tyi_53 (by repeat first | exact .head _ | apply List.Mem.tail) rfl rfl) ?_
                  refine LJ_call0 rfl rfl rfl rfl rfl (circle_c ha hc he hp) (AllIn.sub (by first | exact trivial | exact And.intro (by repeat first | exact .head _ | apply List.Mem.tail) trivial | exact And.intro (by repeat first | exact .head _ | apply List.Mem.tail) (And.intro (by repeat first | exact .head _ | apply List.Mem.tail) trivial))) ?_
                  refine LJ_y rfl rfl (YJ_bin rfl rfl rfl) ?_
                  refine LJ_y rfl rfl (YJ_pickF rfl rfl) ?_
                  refine LJ_y rfl rfl (YJ_move rfl) ?_
                  refine LJ_boolC (fun h125 => ?_) (fun h125 => ?_)
                  · try simp only [decide_eq_true_eq, decide_eq_false_iff_not, Bool.not_eq_true', Bool.not_eq_false', Bool.and_eq_true, Bool.and_eq_false_iff, beq_iff_eq, bne_iff_ne, beq_eq_false_iff_ne, bne_eq_false_iff_eq, ne_eq, decide_eq_decide] at h125
                    refine LJ_skip rfl rfl ?_
                    refine LJ_skip rfl rfl ?_
                    refine LJ_skip rfl rfl ?_
                    refine LJ_skip rfl rfl ?_
                    refine LJ_skip rfl rfl ?_
                    refine LJ_skip rfl rfl ?_
                    refine LJ_skip rfl rfl ?_
                    refine LJ_skip rfl rfl ?_
                    refine LJ_skip rfl rfl ?_
                    refine LJ_y rfl rfl (YJ_pickT rfl rfl) ?_
                    refine LJ_y rfl rfl (YJ_assign rfl) ?_
                    refine LJ_nil ?_
                    refine QJ_then ?_
                    refine CJ_ret ?_
                    refine QJ_fin (.inl rfl) (μ' := []) (μr := _) (φ' := []) (res_tmp rfl rfl) (List.Perm.refl _) (fun _ h => nomatch h) ?_
                    exact ⟨rfl, rfl, rfl⟩
                  · try simp only [decide_eq_true_eq, decide_eq_false_iff_not, Bool.not_eq_true', Bool.not_eq_false', Bool.and_eq_true, Bool.and_eq_false_iff, beq_iff_eq, bne_iff_ne, beq_eq_false_iff_ne, bne_eq_false_iff_eq, ne_eq, decide_eq_decide] at h125
                    refine LJ_y rfl rfl (YJ_move rfl) ?_
                    refine LJ_y rfl rfl (YJ_move rfl) ?_
                    first | refine LJ_y rfl rfl (YJ_loadN (vs := [_, _]) rfl tyi_53 (by repeat first | exact .head _ | apply List.Mem.tail) rfl rfl) ?_ | refine LJ_y rfl rfl (YJ_loadFactN (vs := [_, _]) rfl tyi_53 (by repeat first | exact .head _ | apply List.Mem.tail) rfl rfl) ?_
                    first | refine LJ_y rfl rfl (YJ_loadN (vs := [_, _]) rfl tyi_53 (by repeat first | exact .head _ | apply List.Mem.tail) rfl rfl) ?_ | refine LJ_y rfl rfl (YJ_loadFactN (vs := [_, _]) rfl tyi_53 (by repeat first | exact .head _ | apply List.Mem.tail) rfl rfl) ?_
                    first | refine LJ_y rfl rfl (YJ_loadN (vs := [_, _]) rfl tyi_53 (by repeat first | exact .head _ | apply List.Mem.tail) rfl rfl) ?_ | refine LJ_y rfl rfl (YJ_loadFactN (vs := [_, _]) rfl tyi_53 (by repeat first | exact .head _ | apply List.Mem.tail) rfl rfl) ?_
                    first | refine LJ_y rfl rfl (YJ_loadN (vs := [_, _]) rfl tyi_53 (by repeat first | exact .head _ | apply List.Mem.tail) rfl rfl) ?_ | refine LJ_y rfl rfl (YJ_loadFactN (vs := [_, _]) rfl tyi_53 (by repeat first | exact .head _ | apply List.Mem.tail) rfl rfl) ?_
                    refine LJ_call0 rfl rfl rfl rfl rfl (circle_c ha hc he hp) (AllIn.sub (by first | exact trivial | exact And.intro (by repeat first | exact .head _ | apply List.Mem.tail) trivial | exact And.intro (by repeat first | exact .head _ | apply List.Mem.tail) (And.intro (by repeat first | exact .head _ | apply List.Mem.tail) trivial))) ?_
                    refine LJ_y rfl rfl (YJ_bin rfl rfl rfl) ?_
                    refine LJ_val (v := .bool true) (congrArg Value.bool (decide_eq_true (by rcases hci h117 with h | h; exact h.2; exact absurd h.2 h125))) ?_
                    refine LJ_y rfl rfl (YJ_pickT rfl rfl) ?_
                    refine LJ_y rfl rfl (YJ_pickF rfl rfl) ?_
                    refine LJ_y rfl rfl (YJ_assign rfl) ?_
                    refine LJ_nil ?_
                    refine QJ_then ?_
                    refine CJ_ret ?_
                    refine QJ_fin (.inl rfl) (μ' := []) (μr := _) (φ' := []) (res_tmp rfl rfl) (List.Perm.refl _) (fun _ h => nomatch h) ?_
                    exact ⟨rfl, rfl, rfl⟩
              · try simp only [decide_eq_true_eq, decide_eq_false_iff_not, Bool.not_eq_true', Bool.not_eq_false', Bool.and_eq_true, Bool.and_eq_false_iff, beq_iff_eq, bne_iff_ne, beq_eq_false_iff_ne, bne_eq_false_iff_eq, ne_eq, decide_eq_decide] at h110
                first | refine LJ_y rfl rfl (YJ_loadN (vs := [_, _]) rfl tyi_53 (by repeat first | exact .head _ | apply List.Mem.tail) rfl rfl) ?_ | refine LJ_y rfl rfl (YJ_loadFactN (vs := [_, _]) rfl tyi_53 (by repeat first | exact .head _ | apply List.Mem.tail) rfl rfl) ?_
                first | refine LJ_y rfl rfl (YJ_loadN (vs := [_, _]) rfl tyi_53 (by repeat first | exact .head _ | apply List.Mem.tail) rfl rfl) ?_ | refine LJ_y rfl rfl (YJ_loadFactN (vs := [_, _]) rfl tyi_53 (by repeat first | exact .head _ | apply List.Mem.tail) rfl rfl) ?_
                refine LJ_y rfl rfl (YJ_eqs rfl rfl (fun _ => eqs_eql_53 ..)) ?_
                refine LJ_y rfl rfl (YJ_pickF rfl rfl) ?_
                refine LJ_y rfl rfl (YJ_assign rfl) ?_
                refine LJ_nil ?_
                refine QJ_then ?_
                refine CJ_seq ?_
                refine CJ_reg ?_
                refine LJ_y rfl rfl (YJ_move rfl) ?_
                refine LJ_y rfl rfl (YJ_not rfl) ?_
                refine LJ_y rfl rfl (YJ_move rfl) ?_
                refine LJ_boolC (fun h117 => ?_) (fun h117 => ?_)
                · try simp only [decide_eq_true_eq, decide_eq_false_iff_not, Bool.not_eq_true', Bool.not_eq_false', Bool.and_eq_true, Bool.and_eq_false_iff, beq_iff_eq, bne_iff_ne, beq_eq_false_iff_ne, bne_eq_false_iff_eq, ne_eq, decide_eq_decide] at h117
                  refine LJ_skip rfl rfl ?_
                  refine LJ_skip rfl rfl ?_
                  refine LJ_skip rfl rfl ?_
                  refine LJ_skip rfl rfl ?_
                  refine LJ_skip rfl rfl ?_
                  refine LJ_skip rfl rfl ?_
                  refine LJ_y rfl rfl (YJ_pickT rfl rfl) ?_
                  refine LJ_y rfl rfl (YJ_move rfl) ?_
                  refine LJ_skip rfl rfl ?_
                  refine LJ_skip rfl rfl ?_
                  refine LJ_skip rfl rfl ?_
                  refine LJ_skip rfl rfl ?_
                  refine LJ_skip rfl rfl ?_
                  refine LJ_skip rfl rfl ?_
                  refine LJ_skip rfl rfl ?_
                  refine LJ_skip rfl rfl ?_
                  refine LJ_skip rfl rfl ?_
                  refine LJ_y rfl rfl (YJ_pickT rfl rfl) ?_
                  refine LJ_y rfl rfl (YJ_assign rfl) ?_
                  refine LJ_nil ?_
                  refine QJ_then ?_
                  refine CJ_ret ?_
                  refine QJ_fin (.inl rfl) (μ' := []) (μr := _) (φ' := []) (res_tmp rfl rfl) (List.Perm.refl _) (fun _ h => nomatch h) ?_
                  exact ⟨rfl, rfl, rfl⟩
                · try simp only [decide_eq_true_eq, decide_eq_false_iff_not, Bool.not_eq_true', Bool.not_eq_false', Bool.and_eq_true, Bool.and_eq_false_iff, beq_iff_eq, bne_iff_ne, beq_eq_false_iff_ne, bne_eq_false_iff_eq, ne_eq, decide_eq_decide] at h117
                  first | refine LJ_y rfl rfl (YJ_loadN (vs := [_, _]) rfl tyi_53 (by repeat first | exact .head _ | apply List.Mem.tail) rfl rfl) ?_ | refine LJ_y rfl rfl (YJ_loadFactN (vs := [_, _]) rfl tyi_53 (by repeat first | exact .head _ | apply List.Mem.tail) rfl rfl) ?_
                  first | refine LJ_y rfl rfl (YJ_loadN (vs := [_, _]) rfl tyi_53 (by repeat first | exact .head _ | apply List.Mem.tail) rfl rfl) ?_ | refine LJ_y rfl rfl (YJ_loadFactN (vs := [_, _]) rfl tyi_53 (by repeat first | exact .head _ | apply List.Mem.tail) rfl rfl) ?_
                  first | refine LJ_y rfl rfl (YJ_loadN (vs := [_, _]) rfl tyi_53 (by repeat first | exact .head _ | apply List.Mem.tail) rfl rfl) ?_ | refine LJ_y rfl rfl (YJ_loadFactN (vs := [_, _]) rfl tyi_53 (by repeat first | exact .head _ | apply List.Mem.tail) rfl rfl) ?_
                  first | refine LJ_y rfl rfl (YJ_loadN (vs := [_, _]) rfl tyi_53 (by repeat first | exact .head _ | apply List.Mem.tail) rfl rfl) ?_ | refine LJ_y rfl rfl (YJ_loadFactN (vs := [_, _]) rfl tyi_53 (by repeat first | exact .head _ | apply List.Mem.tail) rfl rfl) ?_
                  refine LJ_call0 rfl rfl rfl rfl rfl (circle_c ha hc he hp) (AllIn.sub (by first | exact trivial | exact And.intro (by repeat first | exact .head _ | apply List.Mem.tail) trivial | exact And.intro (by repeat first | exact .head _ | apply List.Mem.tail) (And.intro (by repeat first | exact .head _ | apply List.Mem.tail) trivial))) ?_
                  refine LJ_y rfl rfl (YJ_bin rfl rfl rfl) ?_
                  refine LJ_y rfl rfl (YJ_pickF rfl rfl) ?_
                  refine LJ_y rfl rfl (YJ_move rfl) ?_
                  refine LJ_boolC (fun h125 => ?_) (fun h125 => ?_)
                  · try simp only [decide_eq_true_eq, decide_eq_false_iff_not, Bool.not_eq_true', Bool.not_eq_false', Bool.and_eq_true, Bool.and_eq_false_iff, beq_iff_eq, bne_iff_ne, beq_eq_false_iff_ne, bne_eq_false_iff_eq, ne_eq, decide_eq_decide] at h125
                    refine LJ_skip rfl rfl ?_
                    refine LJ_skip rfl rfl ?_
                    refine LJ_skip rfl rfl ?_
                    refine LJ_skip rfl rfl ?_
                    refine LJ_skip rfl rfl ?_
                    refine LJ_skip rfl rfl ?_
                    refine LJ_skip rfl rfl ?_
                    refine LJ_skip rfl rfl ?_
                    refine LJ_skip rfl rfl ?_
                    refine LJ_y rfl rfl (YJ_pickT rfl rfl) ?_
                    refine LJ_y rfl rfl (YJ_assign rfl) ?_
                    refine LJ_nil ?_
                    refine QJ_then ?_
                    refine CJ_ret ?_
                    refine QJ_fin (.inl rfl) (μ' := []) (μr := _) (φ' := []) (res_tmp rfl rfl) (List.Perm.refl _) (fun _ h => nomatch h) ?_
                    exact ⟨rfl, rfl, rfl⟩
                  · try simp only [decide_eq_true_eq, decide_eq_false_iff_not, Bool.not_eq_true', Bool.not_eq_false', Bool.and_eq_true, Bool.and_eq_false_iff, beq_iff_eq, bne_iff_ne, beq_eq_false_iff_ne, bne_eq_false_iff_eq, ne_eq, decide_eq_decide] at h125
                    refine LJ_y rfl rfl (YJ_move rfl) ?_
                    refine LJ_y rfl rfl (YJ_move rfl) ?_
                    refine LJ_boolC (fun h127 => ?_) (fun h127 => ?_)
                    · try simp only [decide_eq_true_eq, decide_eq_false_iff_not, Bool.not_eq_true', Bool.not_eq_false', Bool.and_eq_true, Bool.and_eq_false_iff, beq_iff_eq, bne_iff_ne, beq_eq_false_iff_ne, bne_eq_false_iff_eq, ne_eq, decide_eq_decide] at h127
                      first | refine LJ_y rfl rfl (YJ_loadN (vs := [_, _]) rfl tyi_53 (by repeat first | exact .head _ | apply List.Mem.tail) rfl rfl) ?_ | refine LJ_y rfl rfl (YJ_loadFactN (vs := [_, _]) rfl tyi_53 (by repeat first | exact .head _ | apply List.Mem.tail) rfl rfl) ?_
                      first | refine LJ_y rfl rfl (YJ_loadN (vs := [_, _]) rfl tyi_53 (by repeat first | exact .head _ | apply List.Mem.tail) rfl rfl) ?_ | refine LJ_y rfl rfl (YJ_loadFactN (vs := [_, _]) rfl tyi_53 (by repeat first | exact .head _ | apply List.Mem.tail) rfl rfl) ?_
                      first | refine LJ_y rfl rfl (YJ_loadN (vs := [_, _]) rfl tyi_53 (by repeat first | exact .head _ | apply List.Mem.tail) rfl rfl) ?_ | refine LJ_y rfl rfl (YJ_loadFactN (vs := [_, _]) rfl tyi_53 (by repeat first | exact .head _ | apply List.Mem.tail) rfl rfl) ?_
                      first | refine LJ_y rfl rfl (YJ_loadN (vs := [_, _]) rfl tyi_53 (by repeat first | exact .head _ | apply List.Mem.tail) rfl rfl) ?_ | refine LJ_y rfl rfl (YJ_loadFactN (vs := [_, _]) rfl tyi_53 (by repeat first | exact .head _ | apply List.Mem.tail) rfl rfl) ?_
                      refine LJ_call0 rfl rfl rfl rfl rfl (circle_c ha hc he hp) (AllIn.sub (by first | exact trivial | exact And.intro (by repeat first | exact .head _ | apply List.Mem.tail) trivial | exact And.intro (by repeat first | exact .head _ | apply List.Mem.tail) (And.intro (by repeat first | exact .head _ | apply List.Mem.tail) trivial))) ?_
                      refine LJ_y rfl rfl (YJ_bin rfl rfl rfl) ?_
                      refine LJ_val (v := .bool true) (congrArg Value.bool (decide_eq_true (by rcases hci h117 with h | h; exact h.2; exact absurd h.2 h125))) ?_
                      refine LJ_y rfl rfl (YJ_pickT rfl rfl) ?_
                      refine LJ_y rfl rfl (YJ_pickF rfl rfl) ?_
                      refine LJ_y rfl rfl (YJ_assign rfl) ?_
                      refine LJ_nil ?_
                      refine QJ_then ?_
                      refine CJ_ret ?_
                      refine QJ_fin (.inl rfl) (μ' := []) (μr := _) (φ' := []) (res_tmp rfl rfl) (List.Perm.refl _) (fun _ h => nomatch h) ?_
                      exact ⟨rfl, rfl, rfl⟩
                    · try simp only [decide_eq_true_eq, decide_eq_false_iff_not, Bool.not_eq_true', Bool.not_eq_false', Bool.and_eq_true, Bool.and_eq_false_iff, beq_iff_eq, bne_iff_ne, beq_eq_false_iff_ne, bne_eq_false_iff_eq, ne_eq, decide_eq_decide] at h127
                      exfalso
                      rcases hci h117 with ⟨hc2, -⟩ | ⟨-, h1⟩
                      · omega
                      · exact absurd h1 h125
          · try simp only [decide_eq_true_eq, decide_eq_false_iff_not, Bool.not_eq_true', Bool.not_eq_false', Bool.and_eq_true, Bool.and_eq_false_iff, beq_iff_eq, bne_iff_ne, beq_eq_false_iff_ne, bne_eq_false_iff_eq, ne_eq, decide_eq_decide] at h93
            refine AJ_y 26 rfl (by kernel_rfl) (by kernel_rfl) rfl rfl (YJ_move rfl) ?_
            refine AJ_y 27 rfl (by kernel_rfl) (by kernel_rfl) rfl rfl (YJ_move rfl) ?_
            refine AJ_y 28 rfl (by kernel_rfl) (by kernel_rfl) rfl rfl (YJ_move rfl) ?_
            refine AJ_y 29 rfl (by kernel_rfl) (by kernel_rfl) rfl rfl (YJ_min3 rfl rfl rfl) ?_
            refine AJ_y 30 rfl (by kernel_rfl) (by kernel_rfl) rfl rfl (YJ_bin rfl rfl rfl) ?_
            refine AJ_y 31 rfl (by kernel_rfl) (by kernel_rfl) rfl rfl (YJ_pickF rfl rfl) ?_
            refine AJ_y 32 rfl (by kernel_rfl) (by kernel_rfl) rfl rfl (YJ_neb rfl rfl ubool_4) ?_
            refine AJ_val (v := .bool false) (congrArg Value.bool (by first | (rw [bne_eq_false_iff_eq, decide_eq_true_iff]; rw [hin]; simp only [*, true_or, or_true]) | (rw [bne_eq_false_iff_eq, decide_eq_decide]; rw [hin]; simp only [*, false_or]))) ?_
            refine AJ_y 33 rfl (by kernel_rfl) (by kernel_rfl) rfl rfl (YJ_pickF rfl rfl) ?_
            refine AJ_done (by kernel_rfl) ?_
            refine QJ_then ?_
            refine CJ_condF rfl ?_
            refine CJ_skip ?_
            refine QJ_then ?_
            refine CJ_seq ?_
            refine CJ_reg ?_
            first | refine LJ_y rfl rfl (YJ_loadN (vs := [_, _]) rfl tyi_53 (by repeat first | exact .head _ | apply List.Mem.tail) rfl rfl) ?_ | refine LJ_y rfl rfl (YJ_loadFactN (vs := [_, _]) rfl tyi_53 (by repeat first | exact .head _ | apply List.Mem.tail) rfl rfl) ?_
            first | refine LJ_y rfl rfl (YJ_loadN (vs := [_, _]) rfl tyi_53 (by repeat first | exact .head _ | apply List.Mem.tail) rfl rfl) ?_ | refine LJ_y rfl rfl (YJ_loadFactN (vs := [_, _]) rfl tyi_53 (by repeat first | exact .head _ | apply List.Mem.tail) rfl rfl) ?_
            refine LJ_y rfl rfl (YJ_eqs rfl rfl (fun _ => eqs_eql_53 ..)) ?_
            refine LJ_y rfl rfl (YJ_move rfl) ?_
            refine LJ_boolC (fun h105 => ?_) (fun h105 => ?_)
            · try simp only [decide_eq_true_eq, decide_eq_false_iff_not, Bool.not_eq_true', Bool.not_eq_false', Bool.and_eq_true, Bool.and_eq_false_iff, beq_iff_eq, bne_iff_ne, beq_eq_false_iff_ne, bne_eq_false_iff_eq, ne_eq, decide_eq_decide] at h105
              refine LJ_skip rfl rfl ?_
              refine LJ_skip rfl rfl ?_
              refine LJ_skip rfl rfl ?_
              refine LJ_y rfl rfl (YJ_pickT rfl rfl) ?_
              refine LJ_y rfl rfl (YJ_move rfl) ?_
              refine LJ_skip rfl rfl ?_
              refine LJ_skip rfl rfl ?_
              refine LJ_skip rfl rfl ?_
              refine LJ_y rfl rfl (YJ_pickT rfl rfl) ?_
              refine LJ_y rfl rfl (YJ_assign rfl) ?_
              refine LJ_nil ?_
              refine QJ_then ?_
              refine CJ_seq ?_
              refine CJ_reg ?_
              refine LJ_y rfl rfl (YJ_move rfl) ?_
              refine LJ_y rfl rfl (YJ_not rfl) ?_
              refine LJ_y rfl rfl (YJ_move rfl) ?_
              refine LJ_boolC (fun h117 => ?_) (fun h117 => ?_)
              · try simp only [decide_eq_true_eq, decide_eq_false_iff_not, Bool.not_eq_true', Bool.not_eq_false', Bool.and_eq_true, Bool.and_eq_false_iff, beq_iff_eq, bne_iff_ne, beq_eq_false_iff_ne, bne_eq_false_iff_eq, ne_eq, decide_eq_decide] at h117
                refine LJ_skip rfl rfl ?_
                refine LJ_skip rfl rfl ?_
                refine LJ_skip rfl rfl ?_
                refine LJ_skip rfl rfl ?_
                refine LJ_skip rfl rfl ?_
                refine LJ_skip rfl rfl ?_
                refine LJ_y rfl rfl (YJ_pickT rfl rfl) ?_
                refine LJ_y rfl rfl (YJ_move rfl) ?_
                refine LJ_skip rfl rfl ?_
                refine LJ_skip rfl rfl ?_
                refine LJ_skip rfl rfl ?_
                refine LJ_skip rfl rfl ?_
                refine LJ_skip rfl rfl ?_
                refine LJ_skip rfl rfl ?_
                refine LJ_skip rfl rfl ?_
                refine LJ_skip rfl rfl ?_
                refine LJ_skip rfl rfl ?_
                refine LJ_y rfl rfl (YJ_pickT rfl rfl) ?_
                refine LJ_y rfl rfl (YJ_assign rfl) ?_
                refine LJ_nil ?_
                refine QJ_then ?_
                refine CJ_ret ?_
                refine QJ_fin (.inl rfl) (μ' := []) (μr := _) (φ' := []) (res_tmp rfl rfl) (List.Perm.refl _) (fun _ h => nomatch h) ?_
                exact ⟨rfl, rfl, rfl⟩
              · try simp only [decide_eq_true_eq, decide_eq_false_iff_not, Bool.not_eq_true', Bool.not_eq_false', Bool.and_eq_true, Bool.and_eq_false_iff, beq_iff_eq, bne_iff_ne, beq_eq_false_iff_ne, bne_eq_false_iff_eq, ne_eq, decide_eq_decide] at h117
                first | refine LJ_y rfl rfl (YJ_loadN (vs := [_, _]) rfl tyi_53 (by repeat first | exact .head _ | apply List.Mem.tail) rfl rfl) ?_ | refine LJ_y rfl rfl (YJ_loadFactN (vs := [_, _]) rfl tyi_53 (by repeat first | exact .head _ | apply List.Mem.tail) rfl rfl) ?_
                first | refine LJ_y rfl rfl (YJ_loadN (vs := [_, _]) rfl tyi_53 (by repeat first | exact .head _ | apply List.Mem.tail) rfl rfl) ?_ | refine LJ_y rfl rfl (YJ_loadFactN (vs := [_, _]) rfl tyi_53 (by repeat first | exact .head _ | apply List.Mem.tail) rfl rfl) ?_
                first | refine LJ_y rfl rfl (YJ_loadN (vs := [_, _]) rfl tyi_53 (by repeat first | exact .head _ | apply List.Mem.tail) rfl rfl) ?_ | refine LJ_y rfl rfl (YJ_loadFactN (vs := [_, _]) rfl tyi_53 (by repeat first | exact .head _ | apply List.Mem.tail) rfl rfl) ?_
                first | refine LJ_y rfl rfl (YJ_loadN (vs := [_, _]) rfl tyi_53 (by repeat first | exact .head _ | apply List.Mem.tail) rfl rfl) ?_ | refine LJ_y rfl rfl (YJ_loadFactN (vs := [_, _]) rfl tyi_53 (by repeat first | exact .head _ | apply List.Mem.tail) rfl rfl) ?_
                refine LJ_call0 rfl rfl rfl rfl rfl (circle_c ha hc he hp) (AllIn.sub (by first | exact trivial | exact And.intro (by repeat first | exact .head _ | apply List.Mem.tail) trivial | exact And.intro (by repeat first | exact .head _ | apply List.Mem.tail) (And.intro (by repeat first | exact .head _ | apply List.Mem.tail) trivial))) ?_
                refine LJ_y rfl rfl (YJ_bin rfl rfl rfl) ?_
                refine LJ_y rfl rfl (YJ_pickF rfl rfl) ?_
                refine LJ_y rfl rfl (YJ_move rfl) ?_
                refine LJ_boolC (fun h125 => ?_) (fun h125 => ?_)
                · try simp only [decide_eq_true_eq, decide_eq_false_iff_not, Bool.not_eq_true', Bool.not_eq_false', Bool.and_eq_true, Bool.and_eq_false_iff, beq_iff_eq, bne_iff_ne, beq_eq_false_iff_ne, bne_eq_false_iff_eq, ne_eq, decide_eq_decide] at h125
                  refine LJ_skip rfl rfl ?_
                  refine LJ_skip rfl rfl ?_
                  refine LJ_skip rfl rfl ?_
                  refine LJ_skip rfl rfl ?_
                  refine LJ_skip rfl rfl ?_
                  refine LJ_skip rfl rfl ?_
                  refine LJ_skip rfl rfl ?_
                  refine LJ_skip rfl rfl ?_
                  refine LJ_skip rfl rfl ?_
                  refine LJ_y rfl rfl (YJ_pickT rfl rfl) ?_
                  refine LJ_y rfl rfl (YJ_assign rfl) ?_
                  refine LJ_nil ?_
                  refine QJ_then ?_
                  refine CJ_ret ?_
                  refine QJ_fin (.inl rfl) (μ' := []) (μr := _) (φ' := []) (res_tmp rfl rfl) (List.Perm.refl _) (fun _ h => nomatch h) ?_
                  exact ⟨rfl, rfl, rfl⟩
                · try simp only [decide_eq_true_eq, decide_eq_false_iff_not, Bool.not_eq_true', Bool.not_eq_false', Bool.and_eq_true, Bool.and_eq_false_iff, beq_iff_eq, bne_iff_ne, beq_eq_false_iff_ne, bne_eq_false_iff_eq, ne_eq, decide_eq_decide] at h125
                  refine LJ_y rfl rfl (YJ_move rfl) ?_
                  refine LJ_y rfl rfl (YJ_move rfl) ?_
                  first | refine LJ_y rfl rfl (YJ_loadN (vs := [_, _]) rfl tyi_53 (by repeat first | exact .head _ | apply List.Mem.tail) rfl rfl) ?_ | refine LJ_y rfl rfl (YJ_loadFactN (vs := [_, _]) rfl tyi_53 (by repeat first | exact .head _ | apply List.Mem.tail) rfl rfl) ?_
                  first | refine LJ_y rfl rfl (YJ_loadN (vs := [_, _]) rfl tyi_53 (by repeat first | exact .head _ | apply List.Mem.tail) rfl rfl) ?_ | refine LJ_y rfl rfl (YJ_loadFactN (vs := [_, _]) rfl tyi_53 (by repeat first | exact .head _ | apply List.Mem.tail) rfl rfl) ?_
                  first | refine LJ_y rfl rfl (YJ_loadN (vs := [_, _]) rfl tyi_53 (by repeat first | exact .head _ | apply List.Mem.tail) rfl rfl) ?_ | refine LJ_y rfl rfl (YJ_loadFactN (vs := [_, _]) rfl tyi_53 (by repeat first | exact .head _ | apply List.Mem.tail) rfl rfl) ?_
                  first | refine LJ_y rfl rfl (YJ_loadN (vs := [_, _]) rfl tyi_53 (by repeat first | exact .head _ | apply List.Mem.tail) rfl rfl) ?_ | refine LJ_y rfl rfl (YJ_loadFactN (vs := [_, _]) rfl tyi_53 (by repeat first | exact .head _ | apply List.Mem.tail) rfl rfl) ?_
                  refine LJ_call0 rfl rfl rfl rfl rfl (circle_c ha hc he hp) (AllIn.sub (by first | exact trivial | exact And.intro (by repeat first | exact .head _ | apply List.Mem.tail) trivial | exact And.intro (by repeat first | exact .head _ | apply List.Mem.tail) (And.intro (by repeat first | exact .head _ | apply List.Mem.tail) trivial))) ?_
                  refine LJ_y rfl rfl (YJ_bin rfl rfl rfl) ?_
                  refine LJ_val (v := .bool true) (congrArg Value.bool (decide_eq_true (by rcases hci h117 with h | h; exact h.2; exact absurd h.2 h125))) ?_
                  refine LJ_y rfl rfl (YJ_pickT rfl rfl) ?_
                  refine LJ_y rfl rfl (YJ_pickF rfl rfl) ?_
                  refine LJ_y rfl rfl (YJ_assign rfl) ?_
                  refine LJ_nil ?_
                  refine QJ_then ?_
                  refine CJ_ret ?_
                  refine QJ_fin (.inl rfl) (μ' := []) (μr := _) (φ' := []) (res_tmp rfl rfl) (List.Perm.refl _) (fun _ h => nomatch h) ?_
                  exact ⟨rfl, rfl, rfl⟩
            · try simp only [decide_eq_true_eq, decide_eq_false_iff_not, Bool.not_eq_true', Bool.not_eq_false', Bool.and_eq_true, Bool.and_eq_false_iff, beq_iff_eq, bne_iff_ne, beq_eq_false_iff_ne, bne_eq_false_iff_eq, ne_eq, decide_eq_decide] at h105
              first | refine LJ_y rfl rfl (YJ_loadN (vs := [_, _]) rfl tyi_53 (by repeat first | exact .head _ | apply List.Mem.tail) rfl rfl) ?_ | refine LJ_y rfl rfl (YJ_loadFactN (vs := [_, _]) rfl tyi_53 (by repeat first | exact .head _ | apply List.Mem.tail) rfl rfl) ?_
              first | refine LJ_y rfl rfl (YJ_loadN (vs := [_, _]) rfl tyi_53 (by repeat first | exact .head _ | apply List.Mem.tail) rfl rfl) ?_ | refine LJ_y rfl rfl (YJ_loadFactN (vs := [_, _]) rfl tyi_53 (by repeat first | exact .head _ | apply List.Mem.tail) rfl rfl) ?_
              refine LJ_y rfl rfl (YJ_eqs rfl rfl (fun _ => eqs_eql_53 ..)) ?_
              refine LJ_y rfl rfl (YJ_pickF rfl rfl) ?_
              refine LJ_y rfl rfl (YJ_move rfl) ?_
              refine LJ_boolC (fun h110 => ?_) (fun h110 => ?_)
              · try simp only [decide_eq_true_eq, decide_eq_false_iff_not, Bool.not_eq_true', Bool.not_eq_false', Bool.and_eq_true, Bool.and_eq_false_iff, beq_iff_eq, bne_iff_ne, beq_eq_false_iff_ne, bne_eq_false_iff_eq, ne_eq, decide_eq_decide] at h110
                refine LJ_skip rfl rfl ?_
                refine LJ_skip rfl rfl ?_
                refine LJ_skip rfl rfl ?_
                refine LJ_y rfl rfl (YJ_pickT rfl rfl) ?_
                refine LJ_y rfl rfl (YJ_assign rfl) ?_
                refine LJ_nil ?_
                refine QJ_then ?_
                refine CJ_seq ?_
                refine CJ_reg ?_
                refine LJ_y rfl rfl (YJ_move rfl) ?_
                refine LJ_y rfl rfl (YJ_not rfl) ?_
                refine LJ_y rfl rfl (YJ_move rfl) ?_
                refine LJ_boolC (fun h117 => ?_) (fun h117 => ?_)
                · try simp only [decide_eq_true_eq, decide_eq_false_iff_not, Bool.not_eq_true', Bool.not_eq_false', Bool.and_eq_true, Bool.and_eq_false_iff, beq_iff_eq, bne_iff_ne, beq_eq_false_iff_ne, bne_eq_false_iff_eq, ne_eq, decide_eq_decide] at h117
                  refine LJ_skip rfl rfl ?_
                  refine LJ_skip rfl rfl ?_
                  refine LJ_skip rfl rfl ?_
                  refine LJ_skip rfl rfl ?_
                  refine LJ_skip rfl rfl ?_
                  refine LJ_skip rfl rfl ?_
                  refine LJ_y rfl rfl (YJ_pickT rfl rfl) ?_
                  refine LJ_y rfl rfl (YJ_move rfl) ?_
                  refine LJ_skip rfl rfl ?_
                  refine LJ_skip rfl rfl ?_
                  refine LJ_skip rfl rfl ?_
                  refine LJ_skip rfl rfl ?_
                  refine LJ_skip rfl rfl ?_
                  refine LJ_skip rfl rfl ?_
                  refine LJ_skip rfl rfl ?_
                  refine LJ_skip rfl rfl ?_
                  refine LJ_skip rfl rfl ?_
                  refine LJ_y rfl rfl (YJ_pickT rfl rfl) ?_
                  refine LJ_y rfl rfl (YJ_assign rfl) ?_
                  refine LJ_nil ?_
                  refine QJ_then ?_
                  refine CJ_ret ?_
                  refine QJ_fin (.inl rfl) (μ' := []) (μr := _) (φ' := []) (res_tmp rfl rfl) (List.Perm.refl _) (fun _ h => nomatch h) ?_
                  exact ⟨rfl, rfl, rfl⟩
                · try simp only [decide_eq_true_eq, decide_eq_false_iff_not, Bool.not_eq_true', Bool.not_eq_false', Bool.and_eq_true, Bool.and_eq_false_iff, beq_iff_eq, bne_iff_ne, beq_eq_false_iff_ne, bne_eq_false_iff_eq, ne_eq, decide_eq_decide] at h117
                  first | refine LJ_y rfl rfl (YJ_loadN (vs := [_, _]) rfl tyi_53 (by repeat first | exact .head _ | apply List.Mem.tail) rfl rfl) ?_ | refine LJ_y rfl rfl (YJ_loadFactN (vs := [_, _]) rfl tyi_53 (by repeat first | exact .head _ | apply List.Mem.tail) rfl rfl) ?_
                  first | refine LJ_y rfl rfl (YJ_loadN (vs := [_, _]) rfl tyi_53 (by repeat first | exact .head _ | apply List.Mem.tail) rfl rfl) ?_ | refine LJ_y rfl rfl (YJ_loadFactN (vs := [_, _]) rfl tyi_53 (by repeat first | exact .head _ | apply List.Mem.tail) rfl rfl) ?_
                  first | refine LJ_y rfl rfl (YJ_loadN (vs := [_, _]) rfl tyi_53 (by repeat first | exact .head _ | apply List.Mem.tail) rfl rfl) ?_ | refine LJ_y rfl rfl (YJ_loadFactN (vs := [_, _]) rfl tyi_53 (by repeat first | exact .head _ | apply List.Mem.tail) rfl rfl) ?_
                  first | refine LJ_y rfl rfl (YJ_loadN (vs := [_, _]) rfl tyi_53 (by repeat first | exact .head _ | apply List.Mem.tail) rfl rfl) ?_ | refine LJ_y rfl rfl (YJ_loadFactN (vs := [_, _]) rfl tyi_53 (by repeat first | exact .head _ | apply List.Mem.tail) rfl rfl) ?_
                  refine LJ_call0 rfl rfl rfl rfl rfl (circle_c ha hc he hp) (AllIn.sub (by first | exact trivial | exact And.intro (by repeat first | exact .head _ | apply List.Mem.tail) trivial | exact And.intro (by repeat first | exact .head _ | apply List.Mem.tail) (And.intro (by repeat first | exact .head _ | apply List.Mem.tail) trivial))) ?_
                  refine LJ_y rfl rfl (YJ_bin rfl rfl rfl) ?_
                  refine LJ_y rfl rfl (YJ_pickF rfl rfl) ?_
                  refine LJ_y rfl rfl (YJ_move rfl) ?_
                  refine LJ_boolC (fun h125 => ?_) (fun h125 => ?_)
                  · try simp only [decide_eq_true_eq, decide_eq_false_iff_not, Bool.not_eq_true', Bool.not_eq_false', Bool.and_eq_true, Bool.and_eq_false_iff, beq_iff_eq, bne_iff_ne, beq_eq_false_iff_ne, bne_eq_false_iff_eq, ne_eq, decide_eq_decide] at h125
                    refine LJ_skip rfl rfl ?_
                    refine LJ_skip rfl rfl ?_
                    refine LJ_skip rfl rfl ?_
                    refine LJ_skip rfl rfl ?_
                    refine LJ_skip rfl rfl ?_
                    refine LJ_skip rfl rfl ?_
                    refine LJ_skip rfl rfl ?_
                    refine LJ_skip rfl rfl ?_
                    refine LJ_skip rfl rfl ?_
                    refine LJ_y rfl rfl (YJ_pickT rfl rfl) ?_
                    refine LJ_y rfl rfl (YJ_assign rfl) ?_
                    refine LJ_nil ?_
                    refine QJ_then ?_
                    refine CJ_ret ?_
                    refine QJ_fin (.inl rfl) (μ' := []) (μr := _) (φ' := []) (res_tmp rfl rfl) (List.Perm.refl _) (fun _ h => nomatch h) ?_
                    exact ⟨rfl, rfl, rfl⟩
                  · try simp only [decide_eq_true_eq, decide_eq_false_iff_not, Bool.not_eq_true', Bool.not_eq_false', Bool.and_eq_true, Bool.and_eq_false_iff, beq_iff_eq, bne_iff_ne, beq_eq_false_iff_ne, bne_eq_false_iff_eq, ne_eq, decide_eq_decide] at h125
                    refine LJ_y rfl rfl (YJ_move rfl) ?_
                    refine LJ_y rfl rfl (YJ_move rfl) ?_
                    first | refine LJ_y rfl rfl (YJ_loadN (vs := [_, _]) rfl tyi_53 (by repeat first | exact .head _ | apply List.Mem.tail) rfl rfl) ?_ | refine LJ_y rfl rfl (YJ_loadFactN (vs := [_, _]) rfl tyi_53 (by repeat first | exact .head _ | apply List.Mem.tail) rfl rfl) ?_
                    first | refine LJ_y rfl rfl (YJ_loadN (vs := [_, _]) rfl tyi_53 (by repeat first | exact .head _ | apply List.Mem.tail) rfl rfl) ?_ | refine LJ_y rfl rfl (YJ_loadFactN (vs := [_, _]) rfl tyi_53 (by repeat first | exact .head _ | apply List.Mem.tail) rfl rfl) ?_
                    first | refine LJ_y rfl rfl (YJ_loadN (vs := [_, _]) rfl tyi_53 (by repeat first | exact .head _ | apply List.Mem.tail) rfl rfl) ?_ | refine LJ_y rfl rfl (YJ_loadFactN (vs := [_, _]) rfl tyi_53 (by repeat first | exact .head _ | apply List.Mem.tail) rfl rfl) ?_
                    first | refine LJ_y rfl rfl (YJ_loadN (vs := [_, _]) rfl tyi_53 (by repeat first | exact .head _ | apply List.Mem.tail) rfl rfl) ?_ | refine LJ_y rfl rfl (YJ_loadFactN (vs := [_, _]) rfl tyi_53 (by repeat first | exact .head _ | apply List.Mem.tail) rfl rfl) ?_
                    refine LJ_call0 rfl rfl rfl rfl rfl (circle_c ha hc he hp) (AllIn.sub (by first | exact trivial | exact And.intro (by repeat first | exact .head _ | apply List.Mem.tail) trivial | exact And.intro (by repeat first | exact .head _ | apply List.Mem.tail) (And.intro (by repeat first | exact .head _ | apply List.Mem.tail) trivial))) ?_
                    refine LJ_y rfl rfl (YJ_bin rfl rfl rfl) ?_
                    refine LJ_val (v := .bool true) (congrArg Value.bool (decide_eq_true (by rcases hci h117 with h | h; exact h.2; exact absurd h.2 h125))) ?_
                    refine LJ_y rfl rfl (YJ_pickT rfl rfl) ?_
                    refine LJ_y rfl rfl (YJ_pickF rfl rfl) ?_
                    refine LJ_y rfl rfl (YJ_assign rfl) ?_
                    refine LJ_nil ?_
                    refine QJ_then ?_
                    refine CJ_ret ?_
                    refine QJ_fin (.inl rfl) (μ' := []) (μr := _) (φ' := []) (res_tmp rfl rfl) (List.Perm.refl _) (fun _ h => nomatch h) ?_
                    exact ⟨rfl, rfl, rfl⟩
              · try simp only [decide_eq_true_eq, decide_eq_false_iff_not, Bool.not_eq_true', Bool.not_eq_false', Bool.and_eq_true, Bool.and_eq_false_iff, beq_iff_eq, bne_iff_ne, beq_eq_false_iff_ne, bne_eq_false_iff_eq, ne_eq, decide_eq_decide] at h110
                first | refine LJ_y rfl rfl (YJ_loadN (vs := [_, _]) rfl tyi_53 (by repeat first | exact .head _ | apply List.Mem.tail) rfl rfl) ?_ | refine LJ_y rfl rfl (YJ_loadFactN (vs := [_, _]) rfl tyi_53 (by repeat first | exact .head _ | apply List.Mem.tail) rfl rfl) ?_
                first | refine LJ_y rfl rfl (YJ_loadN (vs := [_, _]) rfl tyi_53 (by repeat first | exact .head _ | apply List.Mem.tail) rfl rfl) ?_ | refine LJ_y rfl rfl (YJ_loadFactN (vs := [_, _]) rfl tyi_53 (by repeat first | exact .head _ | apply List.Mem.tail) rfl rfl) ?_
                refine LJ_y rfl rfl (YJ_eqs rfl rfl (fun _ => eqs_eql_53 ..)) ?_
                refine LJ_y rfl rfl (YJ_pickF rfl rfl) ?_
                refine LJ_y rfl rfl (YJ_assign rfl) ?_
                refine LJ_nil ?_
                refine QJ_then ?_
                refine CJ_seq ?_
                refine CJ_reg ?_
                refine LJ_y rfl rfl (YJ_move rfl) ?_
                refine LJ_y rfl rfl (YJ_not rfl) ?_
                refine LJ_y rfl rfl (YJ_move rfl) ?_
                refine LJ_boolC (fun h117 => ?_) (fun h117 => ?_)
                · try simp only [decide_eq_true_eq, decide_eq_false_iff_not, Bool.not_eq_true', Bool.not_eq_false', Bool.and_eq_true, Bool.and_eq_false_iff, beq_iff_eq, bne_iff_ne, beq_eq_false_iff_ne, bne_eq_false_iff_eq, ne_eq, decide_eq_decide] at h117
                  refine LJ_skip rfl rfl ?_
                  refine LJ_skip rfl rfl ?_
                  refine LJ_skip rfl rfl ?_
                  refine LJ_skip rfl rfl ?_
                  refine LJ_skip rfl rfl ?_
                  refine LJ_skip rfl rfl ?_
                  refine LJ_y rfl rfl (YJ_pickT rfl rfl) ?_
                  refine LJ_y rfl rfl (YJ_move rfl) ?_
                  refine LJ_skip rfl rfl ?_
                  refine LJ_skip rfl rfl ?_
                  refine LJ_skip rfl rfl ?_
                  refine LJ_skip rfl rfl ?_
                  refine LJ_skip rfl rfl ?_
                  refine LJ_skip rfl rfl ?_
                  refine LJ_skip rfl rfl ?_
                  refine LJ_skip rfl rfl ?_
                  refine LJ_skip rfl rfl ?_
                  refine LJ_y rfl rfl (YJ_pickT rfl rfl) ?_
                  refine LJ_y rfl rfl (YJ_assign rfl) ?_
                  refine LJ_nil ?_
                  refine QJ_then ?_
                  refine CJ_ret ?_
                  refine QJ_fin (.inl rfl) (μ' := []) (μr := _) (φ' := []) (res_tmp rfl rfl) (List.Perm.refl _) (fun _ h => nomatch h) ?_
                  exact ⟨rfl, rfl, rfl⟩
                · try simp only [decide_eq_true_eq, decide_eq_false_iff_not, Bool.not_eq_true', Bool.not_eq_false', Bool.and_eq_true, Bool.and_eq_false_iff, beq_iff_eq, bne_iff_ne, beq_eq_false_iff_ne, bne_eq_false_iff_eq, ne_eq, decide_eq_decide] at h117
                  first | refine LJ_y rfl rfl (YJ_loadN (vs := [_, _]) rfl tyi_53 (by repeat first | exact .head _ | apply List.Mem.tail) rfl rfl) ?_ | refine LJ_y rfl rfl (YJ_loadFactN (vs := [_, _]) rfl tyi_53 (by repeat first | exact .head _ | apply List.Mem.tail) rfl rfl) ?_
                  first | refine LJ_y rfl rfl (YJ_loadN (vs := [_, _]) rfl tyi_53 (by repeat first | exact .head _ | apply List.Mem.tail) rfl rfl) ?_ | refine LJ_y rfl rfl (YJ_loadFactN (vs := [_, _]) rfl tyi_53 (by repeat first | exact .head _ | apply List.Mem.tail) rfl rfl) ?_
                  first | refine LJ_y rfl rfl (YJ_loadN (vs := [_, _]) rfl tyi_53 (by repeat first | exact .head _ | apply List.Mem.tail) rfl rfl) ?_ | refine LJ_y rfl rfl (YJ_loadFactN (vs := [_, _]) rfl tyi_53 (by repeat first | exact .head _ | apply List.Mem.tail) rfl rfl) ?_
                  first | refine LJ_y rfl rfl (YJ_loadN (vs := [_, _]) rfl tyi_53 (by repeat first | exact .head _ | apply List.Mem.tail) rfl rfl) ?_ | refine LJ_y rfl rfl (YJ_loadFactN (vs := [_, _]) rfl tyi_53 (by repeat first | exact .head _ | apply List.Mem.tail) rfl rfl) ?_
                  refine LJ_call0 rfl rfl rfl rfl rfl (circle_c ha hc he hp) (AllIn.sub (by first | exact trivial | exact And.intro (by repeat first | exact .head _ | apply List.Mem.tail) trivial | exact And.intro (by repeat first | exact .head _ | apply List.Mem.tail) (And.intro (by repeat first | exact .head _ | apply List.Mem.tail) trivial))) ?_
                  refine LJ_y rfl rfl (YJ_bin rfl rfl rfl) ?_
                  refine LJ_y rfl rfl (YJ_pickF rfl rfl) ?_
                  refine LJ_y rfl rfl (YJ_move rfl) ?_
                  refine LJ_boolC (fun h125 => ?_) (fun h125 => ?_)
                  · try simp only [decide_eq_true_eq, decide_eq_false_iff_not, Bool.not_eq_true', Bool.not_eq_false', Bool.and_eq_true, Bool.and_eq_false_iff, beq_iff_eq, bne_iff_ne, beq_eq_false_iff_ne, bne_eq_false_iff_eq, ne_eq, decide_eq_decide] at h125
                    refine LJ_skip rfl rfl ?_
                    refine LJ_skip rfl rfl ?_
                    refine LJ_skip rfl rfl ?_
                    refine LJ_skip rfl rfl ?_
                    refine LJ_skip rfl rfl ?_
                    refine LJ_skip rfl rfl ?_
                    refine LJ_skip rfl rfl ?_
                    refine LJ_skip rfl rfl ?_
                    refine LJ_skip rfl rfl ?_
                    refine LJ_y rfl rfl (YJ_pickT rfl rfl) ?_
                    refine LJ_y rfl rfl (YJ_assign rfl) ?_
                    refine LJ_nil ?_
                    refine QJ_then ?_
                    refine CJ_ret ?_
                    refine QJ_fin (.inl rfl) (μ' := []) (μr := _) (φ' := []) (res_tmp rfl rfl) (List.Perm.refl _) (fun _ h => nomatch h) ?_
                    exact ⟨rfl, rfl, rfl⟩
                  · try simp only [decide_eq_true_eq, decide_eq_false_iff_not, Bool.not_eq_true', Bool.not_eq_false', Bool.and_eq_true, Bool.and_eq_false_iff, beq_iff_eq, bne_iff_ne, beq_eq_false_iff_ne, bne_eq_false_iff_eq, ne_eq, decide_eq_decide] at h125
                    refine LJ_y rfl rfl (YJ_move rfl) ?_
                    refine LJ_y rfl rfl (YJ_move rfl) ?_
                    refine LJ_boolC (fun h127 => ?_) (fun h127 => ?_)
                    · try simp only [decide_eq_true_eq, decide_eq_false_iff_not, Bool.not_eq_true', Bool.not_eq_false', Bool.and_eq_true, Bool.and_eq_false_iff, beq_iff_eq, bne_iff_ne, beq_eq_false_iff_ne, bne_eq_false_iff_eq, ne_eq, decide_eq_decide] at h127
                      first | refine LJ_y rfl rfl (YJ_loadN (vs := [_, _]) rfl tyi_53 (by repeat first | exact .head _ | apply List.Mem.tail) rfl rfl) ?_ | refine LJ_y rfl rfl (YJ_loadFactN (vs := [_, _]) rfl tyi_53 (by repeat first | exact .head _ | apply List.Mem.tail) rfl rfl) ?_
                      first | refine LJ_y rfl rfl (YJ_loadN (vs := [_, _]) rfl tyi_53 (by repeat first | exact .head _ | apply List.Mem.tail) rfl rfl) ?_ | refine LJ_y rfl rfl (YJ_loadFactN (vs := [_, _]) rfl tyi_53 (by repeat first | exact .head _ | apply List.Mem.tail) rfl rfl) ?_
                      first | refine LJ_y rfl rfl (YJ_loadN (vs := [_, _]) rfl tyi_53 (by repeat first | exact .head _ | apply List.Mem.tail) rfl rfl) ?_ | refine LJ_y rfl rfl (YJ_loadFactN (vs := [_, _]) rfl tyi_53 (by repeat first | exact .head _ | apply List.Mem.tail) rfl rfl) ?_
                      first | refine LJ_y rfl rfl (YJ_loadN (vs := [_, _]) rfl tyi_53 (by repeat first | exact .head _ | apply List.Mem.tail) rfl rfl) ?_ | refine LJ_y rfl rfl (YJ_loadFactN (vs := [_, _]) rfl tyi_53 (by repeat first | exact .head _ | apply List.Mem.tail) rfl rfl) ?_
                      refine LJ_call0 rfl rfl rfl rfl rfl (circle_c ha hc he hp) (AllIn.sub (by first | exact trivial | exact And.intro (by repeat first | exact .head _ | apply List.Mem.tail) trivial | exact And.intro (by repeat first | exact .head _ | apply List.Mem.tail) (And.intro (by repeat first | exact .head _ | apply List.Mem.tail) trivial))) ?_
                      refine LJ_y rfl rfl (YJ_bin rfl rfl rfl) ?_
                      refine LJ_val (v := .bool true) (congrArg Value.bool (decide_eq_true (by rcases hci h117 with h | h; exact h.2; exact absurd h.2 h125))) ?_
                      refine LJ_y rfl rfl (YJ_pickT rfl rfl) ?_
                      refine LJ_y rfl rfl (YJ_pickF rfl rfl) ?_
                      refine LJ_y rfl rfl (YJ_assign rfl) ?_
                      refine LJ_nil ?_
                      refine QJ_then ?_
                      refine CJ_ret ?_
                      refine QJ_fin (.inl rfl) (μ' := []) (μr := _) (φ' := []) (res_tmp rfl rfl) (List.Perm.refl _) (fun _ h => nomatch h) ?_
                      exact ⟨rfl, rfl, rfl⟩
                    · try simp only [decide_eq_true_eq, decide_eq_false_iff_not, Bool.not_eq_true', Bool.not_eq_false', Bool.and_eq_true, Bool.and_eq_false_iff, beq_iff_eq, bne_iff_ne, beq_eq_false_iff_ne, bne_eq_false_iff_eq, ne_eq, decide_eq_decide] at h127
                      exfalso
                      rcases hci h117 with ⟨hc2, -⟩ | ⟨-, h1⟩
                      · omega
                      · exact absurd h1 h125
    · try simp only [decide_eq_true_eq, decide_eq_false_iff_not, Bool.not_eq_true', Bool.not_eq_false', Bool.and_eq_true, Bool.and_eq_false_iff, beq_iff_eq, bne_iff_ne, beq_eq_false_iff_ne, bne_eq_false_iff_eq, ne_eq, decide_eq_decide] at h33
      have hD : 0 < (A2 (tm a1) (tm a2) (tm e1) (tm e2) (tm c1) (tm c2)) := by
        have := sgn_cases (A2 (tm a1) (tm a2) (tm e1) (tm e2) (tm c1) (tm c2))
        omega
      have hin := tri_in (p1 := tm p1) (p2 := tm p2) hD
      have hci := tri_circle (p1 := tm p1) (p2 := tm p2) hD
      refine CJ_skip ?_
      refine QJ_in_normal ?_
      refine QJ_then ?_
      refine CJ_seq ?_
      refine CJ_regD mix (by kernel_rfl) (fun _ _ _ _ _ h => h) _ _ (fun _ h => h) (fun _ h => h) ?_
      first | refine AJ_y 0 rfl (by kernel_rfl) (by kernel_rfl) rfl rfl (YJ_loadN (vs := [_, _]) rfl tyi_53 (by repeat first | exact .head _ | apply List.Mem.tail) rfl rfl) ?_ | refine AJ_y 0 rfl (by kernel_rfl) (by kernel_rfl) rfl rfl (YJ_loadFactN (vs := [_, _]) rfl tyi_53 (by repeat first | exact .head _ | apply List.Mem.tail) rfl rfl) ?_
      first | refine AJ_y 1 rfl (by kernel_rfl) (by kernel_rfl) rfl rfl (YJ_loadN (vs := [_, _]) rfl tyi_53 (by repeat first | exact .head _ | apply List.Mem.tail) rfl rfl) ?_ | refine AJ_y 1 rfl (by kernel_rfl) (by kernel_rfl) rfl rfl (YJ_loadFactN (vs := [_, _]) rfl tyi_53 (by repeat first | exact .head _ | apply List.Mem.tail) rfl rfl) ?_
      first | refine AJ_y 2 rfl (by kernel_rfl) (by kernel_rfl) rfl rfl (YJ_loadN (vs := [_, _]) rfl tyi_53 (by repeat first | exact .head _ | apply List.Mem.tail) rfl rfl) ?_ | refine AJ_y 2 rfl (by kernel_rfl) (by kernel_rfl) rfl rfl (YJ_loadFactN (vs := [_, _]) rfl tyi_53 (by repeat first | exact .head _ | apply List.Mem.tail) rfl rfl) ?_
      first | refine AJ_y 4 rfl (by kernel_rfl) (by kernel_rfl) rfl rfl (YJ_loadN (vs := [_, _]) rfl tyi_53 (by repeat first | exact .head _ | apply List.Mem.tail) rfl rfl) ?_ | refine AJ_y 4 rfl (by kernel_rfl) (by kernel_rfl) rfl rfl (YJ_loadFactN (vs := [_, _]) rfl tyi_53 (by repeat first | exact .head _ | apply List.Mem.tail) rfl rfl) ?_
      first | refine AJ_y 5 rfl (by kernel_rfl) (by kernel_rfl) rfl rfl (YJ_loadN (vs := [_, _]) rfl tyi_53 (by repeat first | exact .head _ | apply List.Mem.tail) rfl rfl) ?_ | refine AJ_y 5 rfl (by kernel_rfl) (by kernel_rfl) rfl rfl (YJ_loadFactN (vs := [_, _]) rfl tyi_53 (by repeat first | exact .head _ | apply List.Mem.tail) rfl rfl) ?_
      first | refine AJ_y 6 rfl (by kernel_rfl) (by kernel_rfl) rfl rfl (YJ_loadN (vs := [_, _]) rfl tyi_53 (by repeat first | exact .head _ | apply List.Mem.tail) rfl rfl) ?_ | refine AJ_y 6 rfl (by kernel_rfl) (by kernel_rfl) rfl rfl (YJ_loadFactN (vs := [_, _]) rfl tyi_53 (by repeat first | exact .head _ | apply List.Mem.tail) rfl rfl) ?_
      first | refine AJ_y 8 rfl (by kernel_rfl) (by kernel_rfl) rfl rfl (YJ_loadN (vs := [_, _]) rfl tyi_53 (by repeat first | exact .head _ | apply List.Mem.tail) rfl rfl) ?_ | refine AJ_y 8 rfl (by kernel_rfl) (by kernel_rfl) rfl rfl (YJ_loadFactN (vs := [_, _]) rfl tyi_53 (by repeat first | exact .head _ | apply List.Mem.tail) rfl rfl) ?_
      first | refine AJ_y 9 rfl (by kernel_rfl) (by kernel_rfl) rfl rfl (YJ_loadN (vs := [_, _]) rfl tyi_53 (by repeat first | exact .head _ | apply List.Mem.tail) rfl rfl) ?_ | refine AJ_y 9 rfl (by kernel_rfl) (by kernel_rfl) rfl rfl (YJ_loadFactN (vs := [_, _]) rfl tyi_53 (by repeat first | exact .head _ | apply List.Mem.tail) rfl rfl) ?_
      first | refine AJ_y 10 rfl (by kernel_rfl) (by kernel_rfl) rfl rfl (YJ_loadN (vs := [_, _]) rfl tyi_53 (by repeat first | exact .head _ | apply List.Mem.tail) rfl rfl) ?_ | refine AJ_y 10 rfl (by kernel_rfl) (by kernel_rfl) rfl rfl (YJ_loadFactN (vs := [_, _]) rfl tyi_53 (by repeat first | exact .head _ | apply List.Mem.tail) rfl rfl) ?_
      refine AJ_call0 3 rfl (by kernel_rfl) rfl rfl rfl rfl rfl (orient_c ha he hp) (AllIn.sub (by first | exact trivial | exact And.intro (by repeat first | exact .head _ | apply List.Mem.tail) trivial | exact And.intro (by repeat first | exact .head _ | apply List.Mem.tail) (And.intro (by repeat first | exact .head _ | apply List.Mem.tail) trivial))) ?_
      refine AJ_call0 7 rfl (by kernel_rfl) rfl rfl rfl rfl rfl (orient_c he hc hp) (AllIn.sub (by first | exact trivial | exact And.intro (by repeat first | exact .head _ | apply List.Mem.tail) trivial | exact And.intro (by repeat first | exact .head _ | apply List.Mem.tail) (And.intro (by repeat first | exact .head _ | apply List.Mem.tail) trivial))) ?_
      refine AJ_call0 11 rfl (by kernel_rfl) rfl rfl rfl rfl rfl (orient_c hc ha hp) (AllIn.sub (by first | exact trivial | exact And.intro (by repeat first | exact .head _ | apply List.Mem.tail) trivial | exact And.intro (by repeat first | exact .head _ | apply List.Mem.tail) (And.intro (by repeat first | exact .head _ | apply List.Mem.tail) trivial))) ?_
      refine AJ_y 12 rfl (by kernel_rfl) (by kernel_rfl) rfl rfl (YJ_assign rfl) ?_
      refine AJ_y 13 rfl (by kernel_rfl) (by kernel_rfl) rfl rfl (YJ_assign rfl) ?_
      refine AJ_y 14 rfl (by kernel_rfl) (by kernel_rfl) rfl rfl (YJ_assign rfl) ?_
      refine AJ_done (by kernel_rfl) ?_
      refine QJ_then ?_
      refine CJ_seq ?_
      refine CJ_reg ?_
      refine LJ_y rfl rfl (YJ_move rfl) ?_
      refine LJ_y rfl rfl (YJ_move rfl) ?_
      refine LJ_y rfl rfl (YJ_move rfl) ?_
      refine LJ_y rfl rfl (YJ_min3 rfl rfl rfl) ?_
      refine LJ_y rfl rfl (YJ_bin rfl rfl rfl) ?_
      refine LJ_y rfl rfl (YJ_assign rfl) ?_
      refine LJ_nil ?_
      refine QJ_then ?_
      refine CJ_seq ?_
      refine CJ_regDA mix (by kernel_rfl) (fun _ _ _ _ _ h => h) _ _ (fun _ h => h) (fun _ h => h) [⟨14, 12, 29, #[.bool false, .slice none 0 0]⟩] 15 rfl (And.intro ⟨_, _, _, _, rfl, zer_29, rfl⟩ (trivial)) rfl rfl ?_
      first | refine AA_y 0 rfl (by kernel_rfl) rfl rfl rfl (YJ_loadN (vs := [_, _]) rfl tyi_53 (by repeat first | exact .head _ | apply List.Mem.tail) rfl rfl) ?_ | refine AA_y 0 rfl (by kernel_rfl) rfl rfl rfl (YJ_loadFactN (vs := [_, _]) rfl tyi_53 (by repeat first | exact .head _ | apply List.Mem.tail) rfl rfl) ?_
      first | refine AA_y 1 rfl (by kernel_rfl) rfl rfl rfl (YJ_loadN (vs := [_, _]) rfl tyi_53 (by repeat first | exact .head _ | apply List.Mem.tail) rfl rfl) ?_ | refine AA_y 1 rfl (by kernel_rfl) rfl rfl rfl (YJ_loadFactN (vs := [_, _]) rfl tyi_53 (by repeat first | exact .head _ | apply List.Mem.tail) rfl rfl) ?_
      first | refine AA_y 2 rfl (by kernel_rfl) rfl rfl rfl (YJ_loadN (vs := [_, _]) rfl tyi_53 (by repeat first | exact .head _ | apply List.Mem.tail) rfl rfl) ?_ | refine AA_y 2 rfl (by kernel_rfl) rfl rfl rfl (YJ_loadFactN (vs := [_, _]) rfl tyi_53 (by repeat first | exact .head _ | apply List.Mem.tail) rfl rfl) ?_
      first | refine AA_y 4 rfl (by kernel_rfl) rfl rfl rfl (YJ_loadN (vs := [_, _]) rfl tyi_53 (by repeat first | exact .head _ | apply List.Mem.tail) rfl rfl) ?_ | refine AA_y 4 rfl (by kernel_rfl) rfl rfl rfl (YJ_loadFactN (vs := [_, _]) rfl tyi_53 (by repeat first | exact .head _ | apply List.Mem.tail) rfl rfl) ?_
      first | refine AA_y 5 rfl (by kernel_rfl) rfl rfl rfl (YJ_loadN (vs := [_, _]) rfl tyi_53 (by repeat first | exact .head _ | apply List.Mem.tail) rfl rfl) ?_ | refine AA_y 5 rfl (by kernel_rfl) rfl rfl rfl (YJ_loadFactN (vs := [_, _]) rfl tyi_53 (by repeat first | exact .head _ | apply List.Mem.tail) rfl rfl) ?_
      first | refine AA_y 6 rfl (by kernel_rfl) rfl rfl rfl (YJ_loadN (vs := [_, _]) rfl tyi_53 (by repeat first | exact .head _ | apply List.Mem.tail) rfl rfl) ?_ | refine AA_y 6 rfl (by kernel_rfl) rfl rfl rfl (YJ_loadFactN (vs := [_, _]) rfl tyi_53 (by repeat first | exact .head _ | apply List.Mem.tail) rfl rfl) ?_
      first | refine AA_y 8 rfl (by kernel_rfl) rfl rfl rfl (YJ_loadN (vs := [_, _]) rfl tyi_53 (by repeat first | exact .head _ | apply List.Mem.tail) rfl rfl) ?_ | refine AA_y 8 rfl (by kernel_rfl) rfl rfl rfl (YJ_loadFactN (vs := [_, _]) rfl tyi_53 (by repeat first | exact .head _ | apply List.Mem.tail) rfl rfl) ?_
      first | refine AA_y 9 rfl (by kernel_rfl) rfl rfl rfl (YJ_loadN (vs := [_, _]) rfl tyi_53 (by repeat first | exact .head _ | apply List.Mem.tail) rfl rfl) ?_ | refine AA_y 9 rfl (by kernel_rfl) rfl rfl rfl (YJ_loadFactN (vs := [_, _]) rfl tyi_53 (by repeat first | exact .head _ | apply List.Mem.tail) rfl rfl) ?_
      first | refine AA_y 10 rfl (by kernel_rfl) rfl rfl rfl (YJ_loadN (vs := [_, _]) rfl tyi_53 (by repeat first | exact .head _ | apply List.Mem.tail) rfl rfl) ?_ | refine AA_y 10 rfl (by kernel_rfl) rfl rfl rfl (YJ_loadFactN (vs := [_, _]) rfl tyi_53 (by repeat first | exact .head _ | apply List.Mem.tail) rfl rfl) ?_
      refine AA_callX 3 rfl (by kernel_rfl) rfl rfl rfl rfl rfl rfl rfl (area2_c ha he hp) (AllIn.sub (by first | exact trivial | exact And.intro (by repeat first | exact .head _ | apply List.Mem.tail) trivial | exact And.intro (by repeat first | exact .head _ | apply List.Mem.tail) (And.intro (by repeat first | exact .head _ | apply List.Mem.tail) trivial))) ?_
      rintro ⟨Z1, k1⟩ hcap1
      dsimp only at hcap1
      dsimp only [List.cons_append, List.nil_append]
      refine AA_callX 7 rfl (by kernel_rfl) rfl rfl rfl rfl rfl rfl rfl (area2_c he hc hp) (AllIn.sub (by first | exact trivial | exact And.intro (by repeat first | exact .head _ | apply List.Mem.tail) trivial | exact And.intro (by repeat first | exact .head _ | apply List.Mem.tail) (And.intro (by repeat first | exact .head _ | apply List.Mem.tail) trivial))) ?_
      rintro ⟨Z2, k2⟩ hcap2
      dsimp only at hcap2
      dsimp only [List.cons_append, List.nil_append]
      refine AA_callX 11 rfl (by kernel_rfl) rfl rfl rfl rfl rfl rfl rfl (area2_c hc ha hp) (AllIn.sub (by first | exact trivial | exact And.intro (by repeat first | exact .head _ | apply List.Mem.tail) trivial | exact And.intro (by repeat first | exact .head _ | apply List.Mem.tail) (And.intro (by repeat first | exact .head _ | apply List.Mem.tail) trivial))) ?_
      rintro ⟨Z3, k3⟩ hcap3
      dsimp only at hcap3
      dsimp only [List.cons_append, List.nil_append]
      refine AA_buildSliceN (vs := [_, _, _]) (cs := numCells [((A2 (tm a1) (tm a2) (tm e1) (tm e2) (tm p1) (tm p2)), Z1, k1), ((A2 (tm e1) (tm e2) (tm c1) (tm c2) (tm p1) (tm p2)), Z2, k2), ((A2 (tm c1) (tm c2) (tm a1) (tm a2) (tm p1) (tm p2)), Z3, k3)]) 12 rfl (by kernel_rfl) rfl rfl rfl rfl elt_86 zer_29 (by decide) (by decide) rfl rfl rfl rfl rfl rfl ?_
      intro b8
      have hL : ∀ t, t ∈ ([((A2 (tm a1) (tm a2) (tm e1) (tm e2) (tm p1) (tm p2)), Z1, k1), ((A2 (tm e1) (tm e2) (tm c1) (tm c2) (tm p1) (tm p2)), Z2, k2), ((A2 (tm c1) (tm c2) (tm a1) (tm a2) (tm p1) (tm p2)), Z3, k3)] : List NumT) → dl t.1 ≤ 1000 ∧ dl t.1 ≤ t.2.2 := by
        intro t ht
        rcases List.mem_cons.1 ht with rfl | ht
        · exact ⟨Nat.le_trans (dl_r128 (A2_r ha he hp)) (by decide), hcap1⟩
        rcases List.mem_cons.1 ht with rfl | ht
        · exact ⟨Nat.le_trans (dl_r128 (A2_r he hc hp)) (by decide), hcap2⟩
        rcases List.mem_cons.1 ht with rfl | ht
        · exact ⟨Nat.le_trans (dl_r128 (A2_r hc ha hp)) (by decide), hcap3⟩
        exact absurd ht (List.not_mem_nil)
      refine AA_callX 13 rfl (by kernel_rfl) rfl rfl rfl rfl rfl rfl rfl (nsum_c (L := [((A2 (tm a1) (tm a2) (tm e1) (tm e2) (tm p1) (tm p2)), Z1, k1), ((A2 (tm e1) (tm e2) (tm c1) (tm c2) (tm p1) (tm p2)), Z2, k2), ((A2 (tm c1) (tm c2) (tm a1) (tm a2) (tm p1) (tm p2)), Z3, k3)]) rfl (by simp) hL) (AllIn.sub (And.intro (by repeat first | exact .head _ | apply List.Mem.tail) (And.intro (by repeat first | exact .head _ | apply List.Mem.tail) (And.intro (by repeat first | exact .head _ | apply List.Mem.tail) (And.intro (by repeat first | exact .head _ | apply List.Mem.tail) trivial))))) ?_
      rw [psum3', weights]
      rintro ⟨Z4, k4⟩ hcap4
      dsimp only at hcap4
      dsimp only [List.cons_append, List.nil_append]
      refine AA_end (by kernel_rfl) rfl ?_
      intro bs hbs
      obtain ⟨b9, rfl⟩ := len_1 hbs
      clear hbs
      show AJ _ _ _ _ _ _ _ ((12, .pointer (some ⟨b9, 0, none⟩)) :: _) (cellsR b9 _ _ :: _) _
      refine AJ_store (cs' := #[_, _]) (μ' := [_, _, _, _, _, _]) 15 0 rfl (by kernel_rfl) rfl rfl rfl rfl tyi_29 rfl (Nat.le_of_ble_eq_true rfl) rfl rfl rfl (fun _ => AllIn.sub (And.intro (by repeat first | exact .head _ | apply List.Mem.tail) (And.intro (by repeat first | exact .head _ | apply List.Mem.tail) (And.intro (by repeat first | exact .head _ | apply List.Mem.tail) (And.intro (by repeat first | exact .head _ | apply List.Mem.tail) (And.intro (by repeat first | exact .head _ | apply List.Mem.tail) (trivial))))))) ?_
      refine AJ_done (by kernel_rfl) ?_
      refine QJ_then ?_
      refine CJ_seq ?_
      refine CJ_seq ?_
      refine CJ_regD mix (by kernel_rfl) (fun _ _ _ _ _ h => h) _ _ (fun _ h => h) (fun _ h => h) ?_
      first | refine AJ_y 0 rfl (by kernel_rfl) (by kernel_rfl) rfl rfl (YJ_loadN (vs := [_, _]) rfl tyi_29 (by repeat first | exact .head _ | apply List.Mem.tail) rfl rfl) ?_ | refine AJ_y 0 rfl (by kernel_rfl) (by kernel_rfl) rfl rfl (YJ_loadFactN (vs := [_, _]) rfl tyi_29 (by repeat first | exact .head _ | apply List.Mem.tail) rfl rfl) ?_
      first | refine AJ_y 1 rfl (by kernel_rfl) (by kernel_rfl) rfl rfl (YJ_loadN (vs := [_, _]) rfl tyi_53 (by repeat first | exact .head _ | apply List.Mem.tail) rfl rfl) ?_ | refine AJ_y 1 rfl (by kernel_rfl) (by kernel_rfl) rfl rfl (YJ_loadFactN (vs := [_, _]) rfl tyi_53 (by repeat first | exact .head _ | apply List.Mem.tail) rfl rfl) ?_
      first | refine AJ_y 2 rfl (by kernel_rfl) (by kernel_rfl) rfl rfl (YJ_loadN (vs := [_, _]) rfl tyi_53 (by repeat first | exact .head _ | apply List.Mem.tail) rfl rfl) ?_ | refine AJ_y 2 rfl (by kernel_rfl) (by kernel_rfl) rfl rfl (YJ_loadFactN (vs := [_, _]) rfl tyi_53 (by repeat first | exact .head _ | apply List.Mem.tail) rfl rfl) ?_
      first | refine AJ_y 3 rfl (by kernel_rfl) (by kernel_rfl) rfl rfl (YJ_loadN (vs := [_, _]) rfl tyi_53 (by repeat first | exact .head _ | apply List.Mem.tail) rfl rfl) ?_ | refine AJ_y 3 rfl (by kernel_rfl) (by kernel_rfl) rfl rfl (YJ_loadFactN (vs := [_, _]) rfl tyi_53 (by repeat first | exact .head _ | apply List.Mem.tail) rfl rfl) ?_
      refine AJ_callX 4 rfl (by kernel_rfl) rfl rfl rfl rfl rfl (area2_c ha he hc) (AllIn.sub (by first | exact trivial | exact And.intro (by repeat first | exact .head _ | apply List.Mem.tail) trivial | exact And.intro (by repeat first | exact .head _ | apply List.Mem.tail) (And.intro (by repeat first | exact .head _ | apply List.Mem.tail) trivial))) ?_
      rintro ⟨Z5, k5⟩ hcap5
      dsimp only at hcap5
      dsimp only [List.cons_append, List.nil_append]
      refine AJ_call0 5 rfl (by kernel_rfl) rfl rfl rfl rfl rfl (ncmp_c (dl_big (A2_r ha he hc)) (dl_big (A2_r ha he hc)) hcap4 hcap5) (AllIn.sub (And.intro (by repeat first | exact .head _ | apply List.Mem.tail) (And.intro (by repeat first | exact .head _ | apply List.Mem.tail) trivial))) ?_
      refine AJ_y 6 rfl (by kernel_rfl) (by kernel_rfl) rfl rfl (YJ_bin rfl rfl rfl) ?_
      refine AJ_y 7 rfl (by kernel_rfl) (by kernel_rfl) rfl rfl (YJ_move rfl) ?_
      refine AJ_bool (c := false) (by rw [sgn_self]; rfl) ?_
      refine AJ_y 8 rfl (by kernel_rfl) (by kernel_rfl) rfl rfl (YJ_move rfl) ?_
      first | refine AJ_y 9 rfl (by kernel_rfl) (by kernel_rfl) rfl rfl (YJ_loadN (vs := [_, _]) rfl tyi_53 (by repeat first | exact .head _ | apply List.Mem.tail) rfl rfl) ?_ | refine AJ_y 9 rfl (by kernel_rfl) (by kernel_rfl) rfl rfl (YJ_loadFactN (vs := [_, _]) rfl tyi_53 (by repeat first | exact .head _ | apply List.Mem.tail) rfl rfl) ?_
      first | refine AJ_y 10 rfl (by kernel_rfl) (by kernel_rfl) rfl rfl (YJ_loadN (vs := [_, _]) rfl tyi_53 (by repeat first | exact .head _ | apply List.Mem.tail) rfl rfl) ?_ | refine AJ_y 10 rfl (by kernel_rfl) (by kernel_rfl) rfl rfl (YJ_loadFactN (vs := [_, _]) rfl tyi_53 (by repeat first | exact .head _ | apply List.Mem.tail) rfl rfl) ?_
      first | refine AJ_y 11 rfl (by kernel_rfl) (by kernel_rfl) rfl rfl (YJ_loadN (vs := [_, _]) rfl tyi_53 (by repeat first | exact .head _ | apply List.Mem.tail) rfl rfl) ?_ | refine AJ_y 11 rfl (by kernel_rfl) (by kernel_rfl) rfl rfl (YJ_loadFactN (vs := [_, _]) rfl tyi_53 (by repeat first | exact .head _ | apply List.Mem.tail) rfl rfl) ?_
      refine AJ_call0 12 rfl (by kernel_rfl) rfl rfl rfl rfl rfl (on_c hp ha he) (AllIn.sub (by first | exact trivial | exact And.intro (by repeat first | exact .head _ | apply List.Mem.tail) trivial | exact And.intro (by repeat first | exact .head _ | apply List.Mem.tail) (And.intro (by repeat first | exact .head _ | apply List.Mem.tail) trivial))) ?_
      refine AJ_y 13 rfl (by kernel_rfl) (by kernel_rfl) rfl rfl (YJ_move rfl) ?_
      refine AJ_boolC (fun h81 => ?_) (fun h81 => ?_)
      · try simp only [decide_eq_true_eq, decide_eq_false_iff_not, Bool.not_eq_true', Bool.not_eq_false', Bool.and_eq_true, Bool.and_eq_false_iff, beq_iff_eq, bne_iff_ne, beq_eq_false_iff_ne, bne_eq_false_iff_eq, ne_eq, decide_eq_decide] at h81
        refine AJ_skip 14 rfl (by kernel_rfl) (by kernel_rfl) rfl rfl ?_
        refine AJ_skip 15 rfl (by kernel_rfl) (by kernel_rfl) rfl rfl ?_
        refine AJ_skip 16 rfl (by kernel_rfl) (by kernel_rfl) rfl rfl ?_
        refine AJ_skip 17 rfl (by kernel_rfl) (by kernel_rfl) rfl rfl ?_
        refine AJ_y 18 rfl (by kernel_rfl) (by kernel_rfl) rfl rfl (YJ_pickT rfl rfl) ?_
        refine AJ_y 19 rfl (by kernel_rfl) (by kernel_rfl) rfl rfl (YJ_move rfl) ?_
        refine AJ_skip 20 rfl (by kernel_rfl) (by kernel_rfl) rfl rfl ?_
        refine AJ_skip 21 rfl (by kernel_rfl) (by kernel_rfl) rfl rfl ?_
        refine AJ_skip 22 rfl (by kernel_rfl) (by kernel_rfl) rfl rfl ?_
        refine AJ_skip 23 rfl (by kernel_rfl) (by kernel_rfl) rfl rfl ?_
        refine AJ_y 24 rfl (by kernel_rfl) (by kernel_rfl) rfl rfl (YJ_pickT rfl rfl) ?_
        refine AJ_y 25 rfl (by kernel_rfl) (by kernel_rfl) rfl rfl (YJ_move rfl) ?_
        refine AJ_skip 26 rfl (by kernel_rfl) (by kernel_rfl) rfl rfl ?_
        refine AJ_skip 27 rfl (by kernel_rfl) (by kernel_rfl) rfl rfl ?_
        refine AJ_skip 28 rfl (by kernel_rfl) (by kernel_rfl) rfl rfl ?_
        refine AJ_skip 29 rfl (by kernel_rfl) (by kernel_rfl) rfl rfl ?_
        refine AJ_skip 30 rfl (by kernel_rfl) (by kernel_rfl) rfl rfl ?_
        refine AJ_y 31 rfl (by kernel_rfl) (by kernel_rfl) rfl rfl (YJ_pickT rfl rfl) ?_
        refine AJ_y 32 rfl (by kernel_rfl) (by kernel_rfl) rfl rfl (YJ_neb rfl rfl ubool_4) ?_
        refine AJ_val (v := .bool false) (congrArg Value.bool (by first | (rw [bne_eq_false_iff_eq, decide_eq_true_iff]; rw [hin]; simp only [*, true_or, or_true]) | (rw [bne_eq_false_iff_eq, decide_eq_decide]; rw [hin]; simp only [*, false_or]))) ?_
        refine AJ_y 33 rfl (by kernel_rfl) (by kernel_rfl) rfl rfl (YJ_pickF rfl rfl) ?_
        refine AJ_done (by kernel_rfl) ?_
        refine QJ_then ?_
        refine CJ_condF rfl ?_
        refine CJ_skip ?_
        refine QJ_then ?_
        refine CJ_seq ?_
        refine CJ_reg ?_
        first | refine LJ_y rfl rfl (YJ_loadN (vs := [_, _]) rfl tyi_53 (by repeat first | exact .head _ | apply List.Mem.tail) rfl rfl) ?_ | refine LJ_y rfl rfl (YJ_loadFactN (vs := [_, _]) rfl tyi_53 (by repeat first | exact .head _ | apply List.Mem.tail) rfl rfl) ?_
        first | refine LJ_y rfl rfl (YJ_loadN (vs := [_, _]) rfl tyi_53 (by repeat first | exact .head _ | apply List.Mem.tail) rfl rfl) ?_ | refine LJ_y rfl rfl (YJ_loadFactN (vs := [_, _]) rfl tyi_53 (by repeat first | exact .head _ | apply List.Mem.tail) rfl rfl) ?_
        refine LJ_y rfl rfl (YJ_eqs rfl rfl (fun _ => eqs_eql_53 ..)) ?_
        refine LJ_y rfl rfl (YJ_move rfl) ?_
        refine LJ_boolC (fun h105 => ?_) (fun h105 => ?_)
        · try simp only [decide_eq_true_eq, decide_eq_false_iff_not, Bool.not_eq_true', Bool.not_eq_false', Bool.and_eq_true, Bool.and_eq_false_iff, beq_iff_eq, bne_iff_ne, beq_eq_false_iff_ne, bne_eq_false_iff_eq, ne_eq, decide_eq_decide] at h105
          refine LJ_skip rfl rfl ?_
          refine LJ_skip rfl rfl ?_
          refine LJ_skip rfl rfl ?_
          refine LJ_y rfl rfl (YJ_pickT rfl rfl) ?_
          refine LJ_y rfl rfl (YJ_move rfl) ?_
          refine LJ_skip rfl rfl ?_
          refine LJ_skip rfl rfl ?_
          refine LJ_skip rfl rfl ?_
          refine LJ_y rfl rfl (YJ_pickT rfl rfl) ?_
          refine LJ_y rfl rfl (YJ_assign rfl) ?_
          refine LJ_nil ?_
          refine QJ_then ?_
          refine CJ_seq ?_
          refine CJ_reg ?_
          refine LJ_y rfl rfl (YJ_move rfl) ?_
          refine LJ_y rfl rfl (YJ_not rfl) ?_
          refine LJ_y rfl rfl (YJ_move rfl) ?_
          refine LJ_boolC (fun h117 => ?_) (fun h117 => ?_)
          · try simp only [decide_eq_true_eq, decide_eq_false_iff_not, Bool.not_eq_true', Bool.not_eq_false', Bool.and_eq_true, Bool.and_eq_false_iff, beq_iff_eq, bne_iff_ne, beq_eq_false_iff_ne, bne_eq_false_iff_eq, ne_eq, decide_eq_decide] at h117
            refine LJ_skip rfl rfl ?_
            refine LJ_skip rfl rfl ?_
            refine LJ_skip rfl rfl ?_
            refine LJ_skip rfl rfl ?_
            refine LJ_skip rfl rfl ?_
            refine LJ_skip rfl rfl ?_
            refine LJ_y rfl rfl (YJ_pickT rfl rfl) ?_
            refine LJ_y rfl rfl (YJ_move rfl) ?_
            refine LJ_skip rfl rfl ?_
            refine LJ_skip rfl rfl ?_
            refine LJ_skip rfl rfl ?_
            refine LJ_skip rfl rfl ?_
            refine LJ_skip rfl rfl ?_
            refine LJ_skip rfl rfl ?_
            refine LJ_skip rfl rfl ?_
            refine LJ_skip rfl rfl ?_
            refine LJ_skip rfl rfl ?_
            refine LJ_y rfl rfl (YJ_pickT rfl rfl) ?_
            refine LJ_y rfl rfl (YJ_assign rfl) ?_
            refine LJ_nil ?_
            refine QJ_then ?_
            refine CJ_ret ?_
            refine QJ_fin (.inl rfl) (μ' := []) (μr := _) (φ' := []) (res_tmp rfl rfl) (List.Perm.refl _) (fun _ h => nomatch h) ?_
            exact ⟨rfl, rfl, rfl⟩
          · try simp only [decide_eq_true_eq, decide_eq_false_iff_not, Bool.not_eq_true', Bool.not_eq_false', Bool.and_eq_true, Bool.and_eq_false_iff, beq_iff_eq, bne_iff_ne, beq_eq_false_iff_ne, bne_eq_false_iff_eq, ne_eq, decide_eq_decide] at h117
            first | refine LJ_y rfl rfl (YJ_loadN (vs := [_, _]) rfl tyi_53 (by repeat first | exact .head _ | apply List.Mem.tail) rfl rfl) ?_ | refine LJ_y rfl rfl (YJ_loadFactN (vs := [_, _]) rfl tyi_53 (by repeat first | exact .head _ | apply List.Mem.tail) rfl rfl) ?_
            first | refine LJ_y rfl rfl (YJ_loadN (vs := [_, _]) rfl tyi_53 (by repeat first | exact .head _ | apply List.Mem.tail) rfl rfl) ?_ | refine LJ_y rfl rfl (YJ_loadFactN (vs := [_, _]) rfl tyi_53 (by repeat first | exact .head _ | apply List.Mem.tail) rfl rfl) ?_
            first | refine LJ_y rfl rfl (YJ_loadN (vs := [_, _]) rfl tyi_53 (by repeat first | exact .head _ | apply List.Mem.tail) rfl rfl) ?_ | refine LJ_y rfl rfl (YJ_loadFactN (vs := [_, _]) rfl tyi_53 (by repeat first | exact .head _ | apply List.Mem.tail) rfl rfl) ?_
            first | refine LJ_y rfl rfl (YJ_loadN (vs := [_, _]) rfl tyi_53 (by repeat first | exact .head _ | apply List.Mem.tail) rfl rfl) ?_ | refine LJ_y rfl rfl (YJ_loadFactN (vs := [_, _]) rfl tyi_53 (by repeat first | exact .head _ | apply List.Mem.tail) rfl rfl) ?_
            refine LJ_call0 rfl rfl rfl rfl rfl (circle_c ha he hc hp) (AllIn.sub (by first | exact trivial | exact And.intro (by repeat first | exact .head _ | apply List.Mem.tail) trivial | exact And.intro (by repeat first | exact .head _ | apply List.Mem.tail) (And.intro (by repeat first | exact .head _ | apply List.Mem.tail) trivial))) ?_
            refine LJ_y rfl rfl (YJ_bin rfl rfl rfl) ?_
            refine LJ_y rfl rfl (YJ_pickF rfl rfl) ?_
            refine LJ_y rfl rfl (YJ_move rfl) ?_
            refine LJ_boolC (fun h125 => ?_) (fun h125 => ?_)
            · try simp only [decide_eq_true_eq, decide_eq_false_iff_not, Bool.not_eq_true', Bool.not_eq_false', Bool.and_eq_true, Bool.and_eq_false_iff, beq_iff_eq, bne_iff_ne, beq_eq_false_iff_ne, bne_eq_false_iff_eq, ne_eq, decide_eq_decide] at h125
              refine LJ_skip rfl rfl ?_
              refine LJ_skip rfl rfl ?_
              refine LJ_skip rfl rfl ?_
              refine LJ_skip rfl rfl ?_
              refine LJ_skip rfl rfl ?_
              refine LJ_skip rfl rfl ?_
              refine LJ_skip rfl rfl ?_
              refine LJ_skip rfl rfl ?_
              refine LJ_skip rfl rfl ?_
              refine LJ_y rfl rfl (YJ_pickT rfl rfl) ?_
              refine LJ_y rfl rfl (YJ_assign rfl) ?_
              refine LJ_nil ?_
              refine QJ_then ?_
              refine CJ_ret ?_
              refine QJ_fin (.inl rfl) (μ' := []) (μr := _) (φ' := []) (res_tmp rfl rfl) (List.Perm.refl _) (fun _ h => nomatch h) ?_
              exact ⟨rfl, rfl, rfl⟩
            · try simp only [decide_eq_true_eq, decide_eq_false_iff_not, Bool.not_eq_true', Bool.not_eq_false', Bool.and_eq_true, Bool.and_eq_false_iff, beq_iff_eq, bne_iff_ne, beq_eq_false_iff_ne, bne_eq_false_iff_eq, ne_eq, decide_eq_decide] at h125
              refine LJ_y rfl rfl (YJ_move rfl) ?_
              refine LJ_y rfl rfl (YJ_move rfl) ?_
              first | refine LJ_y rfl rfl (YJ_loadN (vs := [_, _]) rfl tyi_53 (by repeat first | exact .head _ | apply List.Mem.tail) rfl rfl) ?_ | refine LJ_y rfl rfl (YJ_loadFactN (vs := [_, _]) rfl tyi_53 (by repeat first | exact .head _ | apply List.Mem.tail) rfl rfl) ?_
              first | refine LJ_y rfl rfl (YJ_loadN (vs := [_, _]) rfl tyi_53 (by repeat first | exact .head _ | apply List.Mem.tail) rfl rfl) ?_ | refine LJ_y rfl rfl (YJ_loadFactN (vs := [_, _]) rfl tyi_53 (by repeat first | exact .head _ | apply List.Mem.tail) rfl rfl) ?_
              first | refine LJ_y rfl rfl (YJ_loadN (vs := [_, _]) rfl tyi_53 (by repeat first | exact .head _ | apply List.Mem.tail) rfl rfl) ?_ | refine LJ_y rfl rfl (YJ_loadFactN (vs := [_, _]) rfl tyi_53 (by repeat first | exact .head _ | apply List.Mem.tail) rfl rfl) ?_
              first | refine LJ_y rfl rfl (YJ_loadN (vs := [_, _]) rfl tyi_53 (by repeat first | exact .head _ | apply List.Mem.tail) rfl rfl) ?_ | refine LJ_y rfl rfl (YJ_loadFactN (vs := [_, _]) rfl tyi_53 (by repeat first | exact .head _ | apply List.Mem.tail) rfl rfl) ?_
              refine LJ_call0 rfl rfl rfl rfl rfl (circle_c ha he hc hp) (AllIn.sub (by first | exact trivial | exact And.intro (by repeat first | exact .head _ | apply List.Mem.tail) trivial | exact And.intro (by repeat first | exact .head _ | apply List.Mem.tail) (And.intro (by repeat first | exact .head _ | apply List.Mem.tail) trivial))) ?_
              refine LJ_y rfl rfl (YJ_bin rfl rfl rfl) ?_
              refine LJ_val (v := .bool true) (congrArg Value.bool (decide_eq_true (by rcases hci h117 with h | h; exact h.2; exact absurd h.2 h125))) ?_
              refine LJ_y rfl rfl (YJ_pickT rfl rfl) ?_
              refine LJ_y rfl rfl (YJ_pickF rfl rfl) ?_
              refine LJ_y rfl rfl (YJ_assign rfl) ?_
              refine LJ_nil ?_
              refine QJ_then ?_
              refine CJ_ret ?_
              refine QJ_fin (.inl rfl) (μ' := []) (μr := _) (φ' := []) (res_tmp rfl rfl) (List.Perm.refl _) (fun _ h => nomatch h) ?_
              exact ⟨rfl, rfl, rfl⟩
        · try simp only [decide_eq_true_eq, decide_eq_false_iff_not, Bool.not_eq_true', Bool.not_eq_false', Bool.and_eq_true, Bool.and_eq_false_iff, beq_iff_eq, bne_iff_ne, beq_eq_false_iff_ne, bne_eq_false_iff_eq, ne_eq, decide_eq_decide] at h105
          first | refine LJ_y rfl rfl (YJ_loadN (vs := [_, _]) rfl tyi_53 (by repeat first | exact .head _ | apply List.Mem.tail) rfl rfl) ?_ | refine LJ_y rfl rfl (YJ_loadFactN (vs := [_, _]) rfl tyi_53 (by repeat first | exact .head _ | apply List.Mem.tail) rfl rfl) ?_
          first | refine LJ_y rfl rfl (YJ_loadN (vs := [_, _]) rfl tyi_53 (by repeat first | exact .head _ | apply List.Mem.tail) rfl rfl) ?_ | refine LJ_y rfl rfl (YJ_loadFactN (vs := [_, _]) rfl tyi_53 (by repeat first | exact .head _ | apply List.Mem.tail) rfl rfl) ?_
          refine LJ_y rfl rfl (YJ_eqs rfl rfl (fun _ => eqs_eql_53 ..)) ?_
          refine LJ_y rfl rfl (YJ_pickF rfl rfl) ?_
          refine LJ_y rfl rfl (YJ_move rfl) ?_
          refine LJ_boolC (fun h110 => ?_) (fun h110 => ?_)
          · try simp only [decide_eq_true_eq, decide_eq_false_iff_not, Bool.not_eq_true', Bool.not_eq_false', Bool.and_eq_true, Bool.and_eq_false_iff, beq_iff_eq, bne_iff_ne, beq_eq_false_iff_ne, bne_eq_false_iff_eq, ne_eq, decide_eq_decide] at h110
            refine LJ_skip rfl rfl ?_
            refine LJ_skip rfl rfl ?_
            refine LJ_skip rfl rfl ?_
            refine LJ_y rfl rfl (YJ_pickT rfl rfl) ?_
            refine LJ_y rfl rfl (YJ_assign rfl) ?_
            refine LJ_nil ?_
            refine QJ_then ?_
            refine CJ_seq ?_
            refine CJ_reg ?_
            refine LJ_y rfl rfl (YJ_move rfl) ?_
            refine LJ_y rfl rfl (YJ_not rfl) ?_
            refine LJ_y rfl rfl (YJ_move rfl) ?_
            refine LJ_boolC (fun h117 => ?_) (fun h117 => ?_)
            · try simp only [decide_eq_true_eq, decide_eq_false_iff_not, Bool.not_eq_true', Bool.not_eq_false', Bool.and_eq_true, Bool.and_eq_false_iff, beq_iff_eq, bne_iff_ne, beq_eq_false_iff_ne, bne_eq_false_iff_eq, ne_eq, decide_eq_decide] at h117
              refine LJ_skip rfl rfl ?_
              refine LJ_skip rfl rfl ?_
              refine LJ_skip rfl rfl ?_
              refine LJ_skip rfl rfl ?_
              refine LJ_skip rfl rfl ?_
              refine LJ_skip rfl rfl ?_
              refine LJ_y rfl rfl (YJ_pickT rfl rfl) ?_
              refine LJ_y rfl rfl (YJ_move rfl) ?_
              refine LJ_skip rfl rfl ?_
              refine LJ_skip rfl rfl ?_
              refine LJ_skip rfl rfl ?_
              refine LJ_skip rfl rfl ?_
              refine LJ_skip rfl rfl ?_
              refine LJ_skip rfl rfl ?_
              refine LJ_skip rfl rfl ?_
              refine LJ_skip rfl rfl ?_
              refine LJ_skip rfl rfl ?_
              refine LJ_y rfl rfl (YJ_pickT rfl rfl) ?_
              refine LJ_y rfl rfl (YJ_assign rfl) ?_
              refine LJ_nil ?_
              refine QJ_then ?_
              refine CJ_ret ?_
              refine QJ_fin (.inl rfl) (μ' := []) (μr := _) (φ' := []) (res_tmp rfl rfl) (List.Perm.refl _) (fun _ h => nomatch h) ?_
              exact ⟨rfl, rfl, rfl⟩
            · try simp only [decide_eq_true_eq, decide_eq_false_iff_not, Bool.not_eq_true', Bool.not_eq_false', Bool.and_eq_true, Bool.and_eq_false_iff, beq_iff_eq, bne_iff_ne, beq_eq_false_iff_ne, bne_eq_false_iff_eq, ne_eq, decide_eq_decide] at h117
              first | refine LJ_y rfl rfl (YJ_loadN (vs := [_, _]) rfl tyi_53 (by repeat first | exact .head _ | apply List.Mem.tail) rfl rfl) ?_ | refine LJ_y rfl rfl (YJ_loadFactN (vs := [_, _]) rfl tyi_53 (by repeat first | exact .head _ | apply List.Mem.tail) rfl rfl) ?_
              first | refine LJ_y rfl rfl (YJ_loadN (vs := [_, _]) rfl tyi_53 (by repeat first | exact .head _ | apply List.Mem.tail) rfl rfl) ?_ | refine LJ_y rfl rfl (YJ_loadFactN (vs := [_, _]) rfl tyi_53 (by repeat first | exact .head _ | apply List.Mem.tail) rfl rfl) ?_
              first | refine LJ_y rfl rfl (YJ_loadN (vs := [_, _]) rfl tyi_53 (by repeat first | exact .head _ | apply List.Mem.tail) rfl rfl) ?_ | refine LJ_y rfl rfl (YJ_loadFactN (vs := [_, _]) rfl tyi_53 (by repeat first | exact .head _ | apply List.Mem.tail) rfl rfl) ?_
              first | refine LJ_y rfl rfl (YJ_loadN (vs := [_, _]) rfl tyi_53 (by repeat first | exact .head _ | apply List.Mem.tail) rfl rfl) ?_ | refine LJ_y rfl rfl (YJ_loadFactN (vs := [_, _]) rfl tyi_53 (by repeat first | exact .head _ | apply List.Mem.tail) rfl rfl) ?_
              refine LJ_call0 rfl rfl rfl rfl rfl (circle_c ha he hc hp) (AllIn.sub (by first | exact trivial | exact And.intro (by repeat first | exact .head _ | apply List.Mem.tail) trivial | exact And.intro (by repeat first | exact .head _ | apply List.Mem.tail) (And.intro (by repeat first | exact .head _ | apply List.Mem.tail) trivial))) ?_
              refine LJ_y rfl rfl (YJ_bin rfl rfl rfl) ?_
              refine LJ_y rfl rfl (YJ_pickF rfl rfl) ?_
              refine LJ_y rfl rfl (YJ_move rfl) ?_
              refine LJ_boolC (fun h125 => ?_) (fun h125 => ?_)
              · try simp only [decide_eq_true_eq, decide_eq_false_iff_not, Bool.not_eq_true', Bool.not_eq_false', Bool.and_eq_true, Bool.and_eq_false_iff, beq_iff_eq, bne_iff_ne, beq_eq_false_iff_ne, bne_eq_false_iff_eq, ne_eq, decide_eq_decide] at h125
                refine LJ_skip rfl rfl ?_
                refine LJ_skip rfl rfl ?_
                refine LJ_skip rfl rfl ?_
                refine LJ_skip rfl rfl ?_
                refine LJ_skip rfl rfl ?_
                refine LJ_skip rfl rfl ?_
                refine LJ_skip rfl rfl ?_
                refine LJ_skip rfl rfl ?_
                refine LJ_skip rfl rfl ?_
                refine LJ_y rfl rfl (YJ_pickT rfl rfl) ?_
                refine LJ_y rfl rfl (YJ_assign rfl) ?_
                refine LJ_nil ?_
                refine QJ_then ?_
                refine CJ_ret ?_
                refine QJ_fin (.inl rfl) (μ' := []) (μr := _) (φ' := []) (res_tmp rfl rfl) (List.Perm.refl _) (fun _ h => nomatch h) ?_
                exact ⟨rfl, rfl, rfl⟩
              · try simp only [decide_eq_true_eq, decide_eq_false_iff_not, Bool.not_eq_true', Bool.not_eq_false', Bool.and_eq_true, Bool.and_eq_false_iff, beq_iff_eq, bne_iff_ne, beq_eq_false_iff_ne, bne_eq_false_iff_eq, ne_eq, decide_eq_decide] at h125
                refine LJ_y rfl rfl (YJ_move rfl) ?_
                refine LJ_y rfl rfl (YJ_move rfl) ?_
                first | refine LJ_y rfl rfl (YJ_loadN (vs := [_, _]) rfl tyi_53 (by repeat first | exact .head _ | apply List.Mem.tail) rfl rfl) ?_ | refine LJ_y rfl rfl (YJ_loadFactN (vs := [_, _]) rfl tyi_53 (by repeat first | exact .head _ | apply List.Mem.tail) rfl rfl) ?_
                first | refine LJ_y rfl rfl (YJ_loadN (vs := [_, _]) rfl tyi_53 (by repeat first | exact .head _ | apply List.Mem.tail) rfl rfl) ?_ | refine LJ_y rfl rfl (YJ_loadFactN (vs := [_, _]) rfl tyi_53 (by repeat first | exact .head _ | apply List.Mem.tail) rfl rfl) ?_
                first | refine LJ_y rfl rfl (YJ_loadN (vs := [_, _]) rfl tyi_53 (by repeat first | exact .head _ | apply List.Mem.tail) rfl rfl) ?_ | refine LJ_y rfl rfl (YJ_loadFactN (vs := [_, _]) rfl tyi_53 (by repeat first | exact .head _ | apply List.Mem.tail) rfl rfl) ?_
                first | refine LJ_y rfl rfl (YJ_loadN (vs := [_, _]) rfl tyi_53 (by repeat first | exact .head _ | apply List.Mem.tail) rfl rfl) ?_ | refine LJ_y rfl rfl (YJ_loadFactN (vs := [_, _]) rfl tyi_53 (by repeat first | exact .head _ | apply List.Mem.tail) rfl rfl) ?_
                refine LJ_call0 rfl rfl rfl rfl rfl (circle_c ha he hc hp) (AllIn.sub (by first | exact trivial | exact And.intro (by repeat first | exact .head _ | apply List.Mem.tail) trivial | exact And.intro (by repeat first | exact .head _ | apply List.Mem.tail) (And.intro (by repeat first | exact .head _ | apply List.Mem.tail) trivial))) ?_
                refine LJ_y rfl rfl (YJ_bin rfl rfl rfl) ?_
                refine LJ_val (v := .bool true) (congrArg Value.bool (decide_eq_true (by rcases hci h117 with h | h; exact h.2; exact absurd h.2 h125))) ?_
                refine LJ_y rfl rfl (YJ_pickT rfl rfl) ?_
                refine LJ_y rfl rfl (YJ_pickF rfl rfl) ?_
                refine LJ_y rfl rfl (YJ_assign rfl) ?_
                refine LJ_nil ?_
                refine QJ_then ?_
                refine CJ_ret ?_
                refine QJ_fin (.inl rfl) (μ' := []) (μr := _) (φ' := []) (res_tmp rfl rfl) (List.Perm.refl _) (fun _ h => nomatch h) ?_
                exact ⟨rfl, rfl, rfl⟩
          · try simp only [decide_eq_true_eq, decide_eq_false_iff_not, Bool.not_eq_true', Bool.not_eq_false', Bool.and_eq_true, Bool.and_eq_false_iff, beq_iff_eq, bne_iff_ne, beq_eq_false_iff_ne, bne_eq_false_iff_eq, ne_eq, decide_eq_decide] at h110
            first | refine LJ_y rfl rfl (YJ_loadN (vs := [_, _]) rfl tyi_53 (by repeat first | exact .head _ | apply List.Mem.tail) rfl rfl) ?_ | refine LJ_y rfl rfl (YJ_loadFactN (vs := [_, _]) rfl tyi_53 (by repeat first | exact .head _ | apply List.Mem.tail) rfl rfl) ?_
            first | refine LJ_y rfl rfl (YJ_loadN (vs := [_, _]) rfl tyi_53 (by repeat first | exact .head _ | apply List.Mem.tail) rfl rfl) ?_ | refine LJ_y rfl rfl (YJ_loadFactN (vs := [_, _]) rfl tyi_53 (by repeat first | exact .head _ | apply List.Mem.tail) rfl rfl) ?_
            refine LJ_y rfl rfl (YJ_eqs rfl rfl (fun _ => eqs_eql_53 ..)) ?_
            refine LJ_y rfl rfl (YJ_pickF rfl rfl) ?_
            refine LJ_y rfl rfl (YJ_assign rfl) ?_
            refine LJ_nil ?_
            refine QJ_then ?_
            refine CJ_seq ?_
            refine CJ_reg ?_
            refine LJ_y rfl rfl (YJ_move rfl) ?_
            refine LJ_y rfl rfl (YJ_not rfl) ?_
            refine LJ_y rfl rfl (YJ_move rfl) ?_
            refine LJ_boolC (fun h117 => ?_) (fun h117 => ?_)
            · try simp only [decide_eq_true_eq, decide_eq_false_iff_not, Bool.not_eq_true', Bool.not_eq_false', Bool.and_eq_true, Bool.and_eq_false_iff, beq_iff_eq, bne_iff_ne, beq_eq_false_iff_ne, bne_eq_false_iff_eq, ne_eq, decide_eq_decide] at h117
              refine LJ_skip rfl rfl ?_
              refine LJ_skip rfl rfl ?_
              refine LJ_skip rfl rfl ?_
              refine LJ_skip rfl rfl ?_
              refine LJ_skip rfl rfl ?_
              refine LJ_skip rfl rfl ?_
              refine LJ_y rfl rfl (YJ_pickT rfl rfl) ?_
              refine LJ_y rfl rfl (YJ_move rfl) ?_
              refine LJ_skip rfl rfl ?_
              refine LJ_skip rfl rfl ?_
              refine LJ_skip rfl rfl ?_
              refine LJ_skip rfl rfl ?_
              refine LJ_skip rfl rfl ?_
              refine LJ_skip rfl rfl ?_
              refine LJ_skip rfl rfl ?_
              refine LJ_skip rfl rfl ?_
              refine LJ_skip rfl rfl ?_
              refine LJ_y rfl rfl (YJ_pickT rfl rfl) ?_
              refine LJ_y rfl rfl (YJ_assign rfl) ?_
              refine LJ_nil ?_
              refine QJ_then ?_
              refine CJ_ret ?_
              refine QJ_fin (.inl rfl) (μ' := []) (μr := _) (φ' := []) (res_tmp rfl rfl) (List.Perm.refl _) (fun _ h => nomatch h) ?_
              exact ⟨rfl, rfl, rfl⟩
            · try simp only [decide_eq_true_eq, decide_eq_false_iff_not, Bool.not_eq_true', Bool.not_eq_false', Bool.and_eq_true, Bool.and_eq_false_iff, beq_iff_eq, bne_iff_ne, beq_eq_false_iff_ne, bne_eq_false_iff_eq, ne_eq, decide_eq_decide] at h117
              first | refine LJ_y rfl rfl (YJ_loadN (vs := [_, _]) rfl tyi_53 (by repeat first | exact .head _ | apply List.Mem.tail) rfl rfl) ?_ | refine LJ_y rfl rfl (YJ_loadFactN (vs := [_, _]) rfl tyi_53 (by repeat first | exact .head _ | apply List.Mem.tail) rfl rfl) ?_
              first | refine LJ_y rfl rfl (YJ_loadN (vs := [_, _]) rfl tyi_53 (by repeat first | exact .head _ | apply List.Mem.tail) rfl rfl) ?_ | refine LJ_y rfl rfl (YJ_loadFactN (vs := [_, _]) rfl tyi_53 (by repeat first | exact .head _ | apply List.Mem.tail) rfl rfl) ?_
              first | refine LJ_y rfl rfl (YJ_loadN (vs := [_, _]) rfl tyi_53 (by repeat first | exact .head _ | apply List.Mem.tail) rfl rfl) ?_ | refine LJ_y rfl rfl (YJ_loadFactN (vs := [_, _]) rfl tyi_53 (by repeat first | exact .head _ | apply List.Mem.tail) rfl rfl) ?_
              first | refine LJ_y rfl rfl (YJ_loadN (vs := [_, _]) rfl tyi_53 (by repeat first | exact .head _ | apply List.Mem.tail) rfl rfl) ?_ | refine LJ_y rfl rfl (YJ_loadFactN (vs := [_, _]) rfl tyi_53 (by repeat first | exact .head _ | apply List.Mem.tail) rfl rfl) ?_
              refine LJ_call0 rfl rfl rfl rfl rfl (circle_c ha he hc hp) (AllIn.sub (by first | exact trivial | exact And.intro (by repeat first | exact .head _ | apply List.Mem.tail) trivial | exact And.intro (by repeat first | exact .head _ | apply List.Mem.tail) (And.intro (by repeat first | exact .head _ | apply List.Mem.tail) trivial))) ?_
              refine LJ_y rfl rfl (YJ_bin rfl rfl rfl) ?_
              refine LJ_y rfl rfl (YJ_pickF rfl rfl) ?_
              refine LJ_y rfl rfl (YJ_move rfl) ?_
              refine LJ_boolC (fun h125 => ?_) (fun h125 => ?_)
              · try simp only [decide_eq_true_eq, decide_eq_false_iff_not, Bool.not_eq_true', Bool.not_eq_false', Bool.and_eq_true, Bool.and_eq_false_iff, beq_iff_eq, bne_iff_ne, beq_eq_false_iff_ne, bne_eq_false_iff_eq, ne_eq, decide_eq_decide] at h125
                refine LJ_skip rfl rfl ?_
                refine LJ_skip rfl rfl ?_
                refine LJ_skip rfl rfl ?_
                refine LJ_skip rfl rfl ?_
                refine LJ_skip rfl rfl ?_
                refine LJ_skip rfl rfl ?_
                refine LJ_skip rfl rfl ?_
                refine LJ_skip rfl rfl ?_
                refine LJ_skip rfl rfl ?_
                refine LJ_y rfl rfl (YJ_pickT rfl rfl) ?_
                refine LJ_y rfl rfl (YJ_assign rfl) ?_
                refine LJ_nil ?_
                refine QJ_then ?_
                refine CJ_ret ?_
                refine QJ_fin (.inl rfl) (μ' := []) (μr := _) (φ' := []) (res_tmp rfl rfl) (List.Perm.refl _) (fun _ h => nomatch h) ?_
                exact ⟨rfl, rfl, rfl⟩
              · try simp only [decide_eq_true_eq, decide_eq_false_iff_not, Bool.not_eq_true', Bool.not_eq_false', Bool.and_eq_true, Bool.and_eq_false_iff, beq_iff_eq, bne_iff_ne, beq_eq_false_iff_ne, bne_eq_false_iff_eq, ne_eq, decide_eq_decide] at h125
                refine LJ_y rfl rfl (YJ_move rfl) ?_
                refine LJ_y rfl rfl (YJ_move rfl) ?_
                refine LJ_boolC (fun h127 => ?_) (fun h127 => ?_)
                · try simp only [decide_eq_true_eq, decide_eq_false_iff_not, Bool.not_eq_true', Bool.not_eq_false', Bool.and_eq_true, Bool.and_eq_false_iff, beq_iff_eq, bne_iff_ne, beq_eq_false_iff_ne, bne_eq_false_iff_eq, ne_eq, decide_eq_decide] at h127
                  first | refine LJ_y rfl rfl (YJ_loadN (vs := [_, _]) rfl tyi_53 (by repeat first | exact .head _ | apply List.Mem.tail) rfl rfl) ?_ | refine LJ_y rfl rfl (YJ_loadFactN (vs := [_, _]) rfl tyi_53 (by repeat first | exact .head _ | apply List.Mem.tail) rfl rfl) ?_
                  first | refine LJ_y rfl rfl (YJ_loadN (vs := [_, _]) rfl tyi_53 (by repeat first | exact .head _ | apply List.Mem.tail) rfl rfl) ?_ | refine LJ_y rfl rfl (YJ_loadFactN (vs := [_, _]) rfl tyi_53 (by repeat first | exact .head _ | apply List.Mem.tail) rfl rfl) ?_
                  first | refine LJ_y rfl rfl (YJ_loadN (vs := [_, _]) rfl tyi_53 (by repeat first | exact .head _ | apply List.Mem.tail) rfl rfl) ?_ | refine LJ_y rfl rfl (YJ_loadFactN (vs := [_, _]) rfl tyi_53 (by repeat first | exact .head _ | apply List.Mem.tail) rfl rfl) ?_
                  first | refine LJ_y rfl rfl (YJ_loadN (vs := [_, _]) rfl tyi_53 (by repeat first | exact .head _ | apply List.Mem.tail) rfl rfl) ?_ | refine LJ_y rfl rfl (YJ_loadFactN (vs := [_, _]) rfl tyi_53 (by repeat first | exact .head _ | apply List.Mem.tail) rfl rfl) ?_
                  refine LJ_call0 rfl rfl rfl rfl rfl (circle_c ha he hc hp) (AllIn.sub (by first | exact trivial | exact And.intro (by repeat first | exact .head _ | apply List.Mem.tail) trivial | exact And.intro (by repeat first | exact .head _ | apply List.Mem.tail) (And.intro (by repeat first | exact .head _ | apply List.Mem.tail) trivial))) ?_
                  refine LJ_y rfl rfl (YJ_bin rfl rfl rfl) ?_
                  refine LJ_val (v := .bool true) (congrArg Value.bool (decide_eq_true (by rcases hci h117 with h | h; exact h.2; exact absurd h.2 h125))) ?_
                  refine LJ_y rfl rfl (YJ_pickT rfl rfl) ?_
                  refine LJ_y rfl rfl (YJ_pickF rfl rfl) ?_
                  refine LJ_y rfl rfl (YJ_assign rfl) ?_
                  refine LJ_nil ?_
                  refine QJ_then ?_
                  refine CJ_ret ?_
                  refine QJ_fin (.inl rfl) (μ' := []) (μr := _) (φ' := []) (res_tmp rfl rfl) (List.Perm.refl _) (fun _ h => nomatch h) ?_
                  exact ⟨rfl, rfl, rfl⟩
                · try simp only [decide_eq_true_eq, decide_eq_false_iff_not, Bool.not_eq_true', Bool.not_eq_false', Bool.and_eq_true, Bool.and_eq_false_iff, beq_iff_eq, bne_iff_ne, beq_eq_false_iff_ne, bne_eq_false_iff_eq, ne_eq, decide_eq_decide] at h127
                  exfalso
                  rcases hci h117 with ⟨hc2, -⟩ | ⟨-, h1⟩
                  · omega
                  · exact absurd h1 h125
      · try simp only [decide_eq_true_eq, decide_eq_false_iff_not, Bool.not_eq_true', Bool.not_eq_false', Bool.and_eq_true, Bool.and_eq_false_iff, beq_iff_eq, bne_iff_ne, beq_eq_false_iff_ne, bne_eq_false_iff_eq, ne_eq, decide_eq_decide] at h81
        first | refine AJ_y 14 rfl (by kernel_rfl) (by kernel_rfl) rfl rfl (YJ_loadN (vs := [_, _]) rfl tyi_53 (by repeat first | exact .head _ | apply List.Mem.tail) rfl rfl) ?_ | refine AJ_y 14 rfl (by kernel_rfl) (by kernel_rfl) rfl rfl (YJ_loadFactN (vs := [_, _]) rfl tyi_53 (by repeat first | exact .head _ | apply List.Mem.tail) rfl rfl) ?_
        first | refine AJ_y 15 rfl (by kernel_rfl) (by kernel_rfl) rfl rfl (YJ_loadN (vs := [_, _]) rfl tyi_53 (by repeat first | exact .head _ | apply List.Mem.tail) rfl rfl) ?_ | refine AJ_y 15 rfl (by kernel_rfl) (by kernel_rfl) rfl rfl (YJ_loadFactN (vs := [_, _]) rfl tyi_53 (by repeat first | exact .head _ | apply List.Mem.tail) rfl rfl) ?_
        first | refine AJ_y 16 rfl (by kernel_rfl) (by kernel_rfl) rfl rfl (YJ_loadN (vs := [_, _]) rfl tyi_53 (by repeat first | exact .head _ | apply List.Mem.tail) rfl rfl) ?_ | refine AJ_y 16 rfl (by kernel_rfl) (by kernel_rfl) rfl rfl (YJ_loadFactN (vs := [_, _]) rfl tyi_53 (by repeat first | exact .head _ | apply List.Mem.tail) rfl rfl) ?_
        refine AJ_call0 17 rfl (by kernel_rfl) rfl rfl rfl rfl rfl (on_c hp he hc) (AllIn.sub (by first | exact trivial | exact And.intro (by repeat first | exact .head _ | apply List.Mem.tail) trivial | exact And.intro (by repeat first | exact .head _ | apply List.Mem.tail) (And.intro (by repeat first | exact .head _ | apply List.Mem.tail) trivial))) ?_
        refine AJ_y 18 rfl (by kernel_rfl) (by kernel_rfl) rfl rfl (YJ_pickF rfl rfl) ?_
        refine AJ_y 19 rfl (by kernel_rfl) (by kernel_rfl) rfl rfl (YJ_move rfl) ?_
        refine AJ_boolC (fun h87 => ?_) (fun h87 => ?_)
        · try simp only [decide_eq_true_eq, decide_eq_false_iff_not, Bool.not_eq_true', Bool.not_eq_false', Bool.and_eq_true, Bool.and_eq_false_iff, beq_iff_eq, bne_iff_ne, beq_eq_false_iff_ne, bne_eq_false_iff_eq, ne_eq, decide_eq_decide] at h87
          refine AJ_skip 20 rfl (by kernel_rfl) (by kernel_rfl) rfl rfl ?_
          refine AJ_skip 21 rfl (by kernel_rfl) (by kernel_rfl) rfl rfl ?_
          refine AJ_skip 22 rfl (by kernel_rfl) (by kernel_rfl) rfl rfl ?_
          refine AJ_skip 23 rfl (by kernel_rfl) (by kernel_rfl) rfl rfl ?_
          refine AJ_y 24 rfl (by kernel_rfl) (by kernel_rfl) rfl rfl (YJ_pickT rfl rfl) ?_
          refine AJ_y 25 rfl (by kernel_rfl) (by kernel_rfl) rfl rfl (YJ_move rfl) ?_
          refine AJ_skip 26 rfl (by kernel_rfl) (by kernel_rfl) rfl rfl ?_
          refine AJ_skip 27 rfl (by kernel_rfl) (by kernel_rfl) rfl rfl ?_
          refine AJ_skip 28 rfl (by kernel_rfl) (by kernel_rfl) rfl rfl ?_
          refine AJ_skip 29 rfl (by kernel_rfl) (by kernel_rfl) rfl rfl ?_
          refine AJ_skip 30 rfl (by kernel_rfl) (by kernel_rfl) rfl rfl ?_
          refine AJ_y 31 rfl (by kernel_rfl) (by kernel_rfl) rfl rfl (YJ_pickT rfl rfl) ?_
          refine AJ_y 32 rfl (by kernel_rfl) (by kernel_rfl) rfl rfl (YJ_neb rfl rfl ubool_4) ?_
          refine AJ_val (v := .bool false) (congrArg Value.bool (by first | (rw [bne_eq_false_iff_eq, decide_eq_true_iff]; rw [hin]; simp only [*, true_or, or_true]) | (rw [bne_eq_false_iff_eq, decide_eq_decide]; rw [hin]; simp only [*, false_or]))) ?_
          refine AJ_y 33 rfl (by kernel_rfl) (by kernel_rfl) rfl rfl (YJ_pickF rfl rfl) ?_
          refine AJ_done (by kernel_rfl) ?_
          refine QJ_then ?_
          refine CJ_condF rfl ?_
          refine CJ_skip ?_
          refine QJ_then ?_
          refine CJ_seq ?_
          refine CJ_reg ?_
          first | refine LJ_y rfl rfl (YJ_loadN (vs := [_, _]) rfl tyi_53 (by repeat first | exact .head _ | apply List.Mem.tail) rfl rfl) ?_ | refine LJ_y rfl rfl (YJ_loadFactN (vs := [_, _]) rfl tyi_53 (by repeat first | exact .head _ | apply List.Mem.tail) rfl rfl) ?_
          first | refine LJ_y rfl rfl (YJ_loadN (vs := [_, _]) rfl tyi_53 (by repeat first | exact .head _ | apply List.Mem.tail) rfl rfl) ?_ | refine LJ_y rfl rfl (YJ_loadFactN (vs := [_, _]) rfl tyi_53 (by repeat first | exact .head _ | apply List.Mem.tail) rfl rfl) ?_
          refine LJ_y rfl rfl (YJ_eqs rfl rfl (fun _ => eqs_eql_53 ..)) ?_
          refine LJ_y rfl rfl (YJ_move rfl) ?_
          refine LJ_boolC (fun h105 => ?_) (fun h105 => ?_)
          · try simp only [decide_eq_true_eq, decide_eq_false_iff_not, Bool.not_eq_true', Bool.not_eq_false', Bool.and_eq_true, Bool.and_eq_false_iff, beq_iff_eq, bne_iff_ne, beq_eq_false_iff_ne, bne_eq_false_iff_eq, ne_eq, decide_eq_decide] at h105
            refine LJ_skip rfl rfl ?_
            refine LJ_skip rfl rfl ?_
            refine LJ_skip rfl rfl ?_
            refine LJ_y rfl rfl (YJ_pickT rfl rfl) ?_
            refine LJ_y rfl rfl (YJ_move rfl) ?_
            refine LJ_skip rfl rfl ?_
            refine LJ_skip rfl rfl ?_
            refine LJ_skip rfl rfl ?_
            refine LJ_y rfl rfl (YJ_pickT rfl rfl) ?_
            refine LJ_y rfl rfl (YJ_assign rfl) ?_
            refine LJ_nil ?_
            refine QJ_then ?_
            refine CJ_seq ?_
            refine CJ_reg ?_
            refine LJ_y rfl rfl (YJ_move rfl) ?_
            refine LJ_y rfl rfl (YJ_not rfl) ?_
            refine LJ_y rfl rfl (YJ_move rfl) ?_
            refine LJ_boolC (fun h117 => ?_) (fun h117 => ?_)
            · try simp only [decide_eq_true_eq, decide_eq_false_iff_not, Bool.not_eq_true', Bool.not_eq_false', Bool.and_eq_true, Bool.and_eq_false_iff, beq_iff_eq, bne_iff_ne, beq_eq_false_iff_ne, bne_eq_false_iff_eq, ne_eq, decide_eq_decide] at h117
              refine LJ_skip rfl rfl ?_
              refine LJ_skip rfl rfl ?_
              refine LJ_skip rfl rfl ?_
              refine LJ_skip rfl rfl ?_
              refine LJ_skip rfl rfl ?_
              refine LJ_skip rfl rfl ?_
              refine LJ_y rfl rfl (YJ_pickT rfl rfl) ?_
              refine LJ_y rfl rfl (YJ_move rfl) ?_
              refine LJ_skip rfl rfl ?_
              refine LJ_skip rfl rfl ?_
              refine LJ_skip rfl rfl ?_
              refine LJ_skip rfl rfl ?_
              refine LJ_skip rfl rfl ?_
              refine LJ_skip rfl rfl ?_
              refine LJ_skip rfl rfl ?_
              refine LJ_skip rfl rfl ?_
              refine LJ_skip rfl rfl ?_
              refine LJ_y rfl rfl (YJ_pickT rfl rfl) ?_
              refine LJ_y rfl rfl (YJ_assign rfl) ?_
              refine LJ_nil ?_
              refine QJ_then ?_
              refine CJ_ret ?_
              refine QJ_fin (.inl rfl) (μ' := []) (μr := _) (φ' := []) (res_tmp rfl rfl) (List.Perm.refl _) (fun _ h => nomatch h) ?_
              exact ⟨rfl, rfl, rfl⟩
            · try simp only [decide_eq_true_eq, decide_eq_false_iff_not, Bool.not_eq_true', Bool.not_eq_false', Bool.and_eq_true, Bool.and_eq_false_iff, beq_iff_eq, bne_iff_ne, beq_eq_false_iff_ne, bne_eq_false_iff_eq, ne_eq, decide_eq_decide] at h117
              first | refine LJ_y rfl rfl (YJ_loadN (vs := [_, _]) rfl tyi_53 (by repeat first | exact .head _ | apply List.Mem.tail) rfl rfl) ?_ | refine LJ_y rfl rfl (YJ_loadFactN (vs := [_, _]) rfl tyi_53 (by repeat first | exact .head _ | apply List.Mem.tail) rfl rfl) ?_
              first | refine LJ_y rfl rfl (YJ_loadN (vs := [_, _]) rfl tyi_53 (by repeat first | exact .head _ | apply List.Mem.tail) rfl rfl) ?_ | refine LJ_y rfl rfl (YJ_loadFactN (vs := [_, _]) rfl tyi_53 (by repeat first | exact .head _ | apply List.Mem.tail) rfl rfl) ?_
              first | refine LJ_y rfl rfl (YJ_loadN (vs := [_, _]) rfl tyi_53 (by repeat first | exact .head _ | apply List.Mem.tail) rfl rfl) ?_ | refine LJ_y rfl rfl (YJ_loadFactN (vs := [_, _]) rfl tyi_53 (by repeat first | exact .head _ | apply List.Mem.tail) rfl rfl) ?_
              first | refine LJ_y rfl rfl (YJ_loadN (vs := [_, _]) rfl tyi_53 (by repeat first | exact .head _ | apply List.Mem.tail) rfl rfl) ?_ | refine LJ_y rfl rfl (YJ_loadFactN (vs := [_, _]) rfl tyi_53 (by repeat first | exact .head _ | apply List.Mem.tail) rfl rfl) ?_
              refine LJ_call0 rfl rfl rfl rfl rfl (circle_c ha he hc hp) (AllIn.sub (by first | exact trivial | exact And.intro (by repeat first | exact .head _ | apply List.Mem.tail) trivial | exact And.intro (by repeat first | exact .head _ | apply List.Mem.tail) (And.intro (by repeat first | exact .head _ | apply List.Mem.tail) trivial))) ?_
              refine LJ_y rfl rfl (YJ_bin rfl rfl rfl) ?_
              refine LJ_y rfl rfl (YJ_pickF rfl rfl) ?_
              refine LJ_y rfl rfl (YJ_move rfl) ?_
              refine LJ_boolC (fun h125 => ?_) (fun h125 => ?_)
              · try simp only [decide_eq_true_eq, decide_eq_false_iff_not, Bool.not_eq_true', Bool.not_eq_false', Bool.and_eq_true, Bool.and_eq_false_iff, beq_iff_eq, bne_iff_ne, beq_eq_false_iff_ne, bne_eq_false_iff_eq, ne_eq, decide_eq_decide] at h125
                refine LJ_skip rfl rfl ?_
                refine LJ_skip rfl rfl ?_
                refine LJ_skip rfl rfl ?_
                refine LJ_skip rfl rfl ?_
                refine LJ_skip rfl rfl ?_
                refine LJ_skip rfl rfl ?_
                refine LJ_skip rfl rfl ?_
                refine LJ_skip rfl rfl ?_
                refine LJ_skip rfl rfl ?_
                refine LJ_y rfl rfl (YJ_pickT rfl rfl) ?_
                refine LJ_y rfl rfl (YJ_assign rfl) ?_
                refine LJ_nil ?_
                refine QJ_then ?_
                refine CJ_ret ?_
                refine QJ_fin (.inl rfl) (μ' := []) (μr := _) (φ' := []) (res_tmp rfl rfl) (List.Perm.refl _) (fun _ h => nomatch h) ?_
                exact ⟨rfl, rfl, rfl⟩
              · try simp only [decide_eq_true_eq, decide_eq_false_iff_not, Bool.not_eq_true', Bool.not_eq_false', Bool.and_eq_true, Bool.and_eq_false_iff, beq_iff_eq, bne_iff_ne, beq_eq_false_iff_ne, bne_eq_false_iff_eq, ne_eq, decide_eq_decide] at h125
                refine LJ_y rfl rfl (YJ_move rfl) ?_
                refine LJ_y rfl rfl (YJ_move rfl) ?_
                first | refine LJ_y rfl rfl (YJ_loadN (vs := [_, _]) rfl tyi_53 (by repeat first | exact .head _ | apply List.Mem.tail) rfl rfl) ?_ | refine LJ_y rfl rfl (YJ_loadFactN (vs := [_, _]) rfl tyi_53 (by repeat first | exact .head _ | apply List.Mem.tail) rfl rfl) ?_
                first | refine LJ_y rfl rfl (YJ_loadN (vs := [_, _]) rfl tyi_53 (by repeat first | exact .head _ | apply List.Mem.tail) rfl rfl) ?_ | refine LJ_y rfl rfl (YJ_loadFactN (vs := [_, _]) rfl tyi_53 (by repeat first | exact .head _ | apply List.Mem.tail) rfl rfl) ?_
                first | refine LJ_y rfl rfl (YJ_loadN (vs := [_, _]) rfl tyi_53 (by repeat first | exact .head _ | apply List.Mem.tail) rfl rfl) ?_ | refine LJ_y rfl rfl (YJ_loadFactN (vs := [_, _]) rfl tyi_53 (by repeat first | exact .head _ | apply List.Mem.tail) rfl rfl) ?_
                first | refine LJ_y rfl rfl (YJ_loadN (vs := [_, _]) rfl tyi_53 (by repeat first | exact .head _ | apply List.Mem.tail) rfl rfl) ?_ | refine LJ_y rfl rfl (YJ_loadFactN (vs := [_, _]) rfl tyi_53 (by repeat first | exact .head _ | apply List.Mem.tail) rfl rfl) ?_
                refine LJ_call0 rfl rfl rfl rfl rfl (circle_c ha he hc hp) (AllIn.sub (by first | exact trivial | exact And.intro (by repeat first | exact .head _ | apply List.Mem.tail) trivial | exact And.intro (by repeat first | exact .head _ | apply List.Mem.tail) (And.intro (by repeat first | exact .head _ | apply List.Mem.tail) trivial))) ?_
                refine LJ_y rfl rfl (YJ_bin rfl rfl rfl) ?_
                refine LJ_val (v := .bool true) (congrArg Value.bool (decide_eq_true (by rcases hci h117 with h | h; exact h.2; exact absurd h.2 h125))) ?_
                refine LJ_y rfl rfl (YJ_pickT rfl rfl) ?_
                refine LJ_y rfl rfl (YJ_pickF rfl rfl) ?_
                refine LJ_y rfl rfl (YJ_assign rfl) ?_
                refine LJ_nil ?_
                refine QJ_then ?_
                refine CJ_ret ?_
                refine QJ_fin (.inl rfl) (μ' := []) (μr := _) (φ' := []) (res_tmp rfl rfl) (List.Perm.refl _) (fun _ h => nomatch h) ?_
                exact ⟨rfl, rfl, rfl⟩
          · try simp only [decide_eq_true_eq, decide_eq_false_iff_not, Bool.not_eq_true', Bool.not_eq_false', Bool.and_eq_true, Bool.and_eq_false_iff, beq_iff_eq, bne_iff_ne, beq_eq_false_iff_ne, bne_eq_false_iff_eq, ne_eq, decide_eq_decide] at h105
            first | refine LJ_y rfl rfl (YJ_loadN (vs := [_, _]) rfl tyi_53 (by repeat first | exact .head _ | apply List.Mem.tail) rfl rfl) ?_ | refine LJ_y rfl rfl (YJ_loadFactN (vs := [_, _]) rfl tyi_53 (by repeat first | exact .head _ | apply List.Mem.tail) rfl rfl) ?_
            first | refine LJ_y rfl rfl (YJ_loadN (vs := [_, _]) rfl tyi_53 (by repeat first | exact .head _ | apply List.Mem.tail) rfl rfl) ?_ | refine LJ_y rfl rfl (YJ_loadFactN (vs := [_, _]) rfl tyi_53 (by repeat first | exact .head _ | apply List.Mem.tail) rfl rfl) ?_
            refine LJ_y rfl rfl (YJ_eqs rfl rfl (fun _ => eqs_eql_53 ..)) ?_
            refine LJ_y rfl rfl (YJ_pickF rfl rfl) ?_
            refine LJ_y rfl rfl (YJ_move rfl) ?_
            refine LJ_boolC (fun h110 => ?_) (fun h110 => ?_)
            · try simp only [decide_eq_true_eq, decide_eq_false_iff_not, Bool.not_eq_true', Bool.not_eq_false', Bool.and_eq_true, Bool.and_eq_false_iff, beq_iff_eq, bne_iff_ne, beq_eq_false_iff_ne, bne_eq_false_iff_eq, ne_eq, decide_eq_decide] at h110
              refine LJ_skip rfl rfl ?_
              refine LJ_skip rfl rfl ?_
              refine LJ_skip rfl rfl ?_
              refine LJ_y rfl rfl (YJ_pickT rfl rfl) ?_
              refine LJ_y rfl rfl (YJ_assign rfl) ?_
              refine LJ_nil ?_
              refine QJ_then ?_
              refine CJ_seq ?_
              refine CJ_reg ?_
              refine LJ_y rfl rfl (YJ_move rfl) ?_
              refine LJ_y rfl rfl (YJ_not rfl) ?_
              refine LJ_y rfl rfl (YJ_move rfl) ?_
              refine LJ_boolC (fun h117 => ?_) (fun h117 => ?_)
              · try simp only [decide_eq_true_eq, decide_eq_false_iff_not, Bool.not_eq_true', Bool.not_eq_false', Bool.and_eq_true, Bool.and_eq_false_iff, beq_iff_eq, bne_iff_ne, beq_eq_false_iff_ne, bne_eq_false_iff_eq, ne_eq, decide_eq_decide] at h117
                refine LJ_skip rfl rfl ?_
                refine LJ_skip rfl rfl ?_
                refine LJ_skip rfl rfl ?_
                refine LJ_skip rfl rfl ?_
                refine LJ_skip rfl rfl ?_
                refine LJ_skip rfl rfl ?_
                refine LJ_y rfl rfl (YJ_pickT rfl rfl) ?_
                refine LJ_y rfl rfl (YJ_move rfl) ?_
                refine LJ_skip rfl rfl ?_
                refine LJ_skip rfl rfl ?_
                refine LJ_skip rfl rfl ?_
                refine LJ_skip rfl rfl ?_
                refine LJ_skip rfl rfl ?_
                refine LJ_skip rfl rfl ?_
                refine LJ_skip rfl rfl ?_
                refine LJ_skip rfl rfl ?_
                refine LJ_skip rfl rfl ?_
                refine LJ_y rfl rfl (YJ_pickT rfl rfl) ?_
                refine LJ_y rfl rfl (YJ_assign rfl) ?_
                refine LJ_nil ?_
                refine QJ_then ?_
                refine CJ_ret ?_
                refine QJ_fin (.inl rfl) (μ' := []) (μr := _) (φ' := []) (res_tmp rfl rfl) (List.Perm.refl _) (fun _ h => nomatch h) ?_
                exact ⟨rfl, rfl, rfl⟩
              · try simp only [decide_eq_true_eq, decide_eq_false_iff_not, Bool.not_eq_true', Bool.not_eq_false', Bool.and_eq_true, Bool.and_eq_false_iff, beq_iff_eq, bne_iff_ne, beq_eq_false_iff_ne, bne_eq_false_iff_eq, ne_eq, decide_eq_decide] at h117
                first | refine LJ_y rfl rfl (YJ_loadN (vs := [_, _]) rfl tyi_53 (by repeat first | exact .head _ | apply List.Mem.tail) rfl rfl) ?_ | refine LJ_y rfl rfl (YJ_loadFactN (vs := [_, _]) rfl tyi_53 (by repeat first | exact .head _ | apply List.Mem.tail) rfl rfl) ?_
                first | refine LJ_y rfl rfl (YJ_loadN (vs := [_, _]) rfl tyi_53 (by repeat first | exact .head _ | apply List.Mem.tail) rfl rfl) ?_ | refine LJ_y rfl rfl (YJ_loadFactN (vs := [_, _]) rfl tyi_53 (by repeat first | exact .head _ | apply List.Mem.tail) rfl rfl) ?_
                first | refine LJ_y rfl rfl (YJ_loadN (vs := [_, _]) rfl tyi_53 (by repeat first | exact .head _ | apply List.Mem.tail) rfl rfl) ?_ | refine LJ_y rfl rfl (YJ_loadFactN (vs := [_, _]) rfl tyi_53 (by repeat first | exact .head _ | apply List.Mem.tail) rfl rfl) ?_
                first | refine LJ_y rfl rfl (YJ_loadN (vs := [_, _]) rfl tyi_53 (by repeat first | exact .head _ | apply List.Mem.tail) rfl rfl) ?_ | refine LJ_y rfl rfl (YJ_loadFactN (vs := [_, _]) rfl tyi_53 (by repeat first | exact .head _ | apply List.Mem.tail) rfl rfl) ?_
                refine LJ_call0 rfl rfl rfl rfl rfl (circle_c ha he hc hp) (AllIn.sub (by first | exact trivial | exact And.intro (by repeat first | exact .head _ | apply List.Mem.tail) trivial | exact And.intro (by repeat first | exact .head _ | apply List.Mem.tail) (And.intro (by repeat first | exact .head _ | apply List.Mem.tail) trivial))) ?_
                refine LJ_y rfl rfl (YJ_bin rfl rfl rfl) ?_
                refine LJ_y rfl rfl (YJ_pickF rfl rfl) ?_
                refine LJ_y rfl rfl (YJ_move rfl) ?_
                refine LJ_boolC (fun h125 => ?_) (fun h125 => ?_)
                · try simp only [decide_eq_true_eq, decide_eq_false_iff_not, Bool.not_eq_true', Bool.not_eq_false', Bool.and_eq_true, Bool.and_eq_false_iff, beq_iff_eq, bne_iff_ne, beq_eq_false_iff_ne, bne_eq_false_iff_eq, ne_eq, decide_eq_decide] at h125
                  refine LJ_skip rfl rfl ?_
                  refine LJ_skip rfl rfl ?_
                  refine LJ_skip rfl rfl ?_
                  refine LJ_skip rfl rfl ?_
                  refine LJ_skip rfl rfl ?_
                  refine LJ_skip rfl rfl ?_
                  refine LJ_skip rfl rfl ?_
                  refine LJ_skip rfl rfl ?_
                  refine LJ_skip rfl rfl ?_
                  refine LJ_y rfl rfl (YJ_pickT rfl rfl) ?_
                  refine LJ_y rfl rfl (YJ_assign rfl) ?_
                  refine LJ_nil ?_
                  refine QJ_then ?_
                  refine CJ_ret ?_
                  refine QJ_fin (.inl rfl) (μ' := []) (μr := _) (φ' := []) (res_tmp rfl rfl) (List.Perm.refl _) (fun _ h => nomatch h) ?_
                  exact ⟨rfl, rfl, rfl⟩
                · try simp only [decide_eq_true_eq, decide_eq_false_iff_not, Bool.not_eq_true', Bool.not_eq_false', Bool.and_eq_true, Bool.and_eq_false_iff, beq_iff_eq, bne_iff_ne, beq_eq_false_iff_ne, bne_eq_false_iff_eq, ne_eq, decide_eq_decide] at h125
                  refine LJ_y rfl rfl (YJ_move rfl) ?_
                  refine LJ_y rfl rfl (YJ_move rfl) ?_
                  first | refine LJ_y rfl rfl (YJ_loadN (vs := [_, _]) rfl tyi_53 (by repeat first | exact .head _ | apply List.Mem.tail) rfl rfl) ?_ | refine LJ_y rfl rfl (YJ_loadFactN (vs := [_, _]) rfl tyi_53 (by repeat first | exact .head _ | apply List.Mem.tail) rfl rfl) ?_
                  first | refine LJ_y rfl rfl (YJ_loadN (vs := [_, _]) rfl tyi_53 (by repeat first | exact .head _ | apply List.Mem.tail) rfl rfl) ?_ | refine LJ_y rfl rfl (YJ_loadFactN (vs := [_, _]) rfl tyi_53 (by repeat first | exact .head _ | apply List.Mem.tail) rfl rfl) ?_
                  first | refine LJ_y rfl rfl (YJ_loadN (vs := [_, _]) rfl tyi_53 (by repeat first | exact .head _ | apply List.Mem.tail) rfl rfl) ?_ | refine LJ_y rfl rfl (YJ_loadFactN (vs := [_, _]) rfl tyi_53 (by repeat first | exact .head _ | apply List.Mem.tail) rfl rfl) ?_
                  first | refine LJ_y rfl rfl (YJ_loadN (vs := [_, _]) rfl tyi_53 (by repeat first | exact .head _ | apply List.Mem.tail) rfl rfl) ?_ | refine LJ_y rfl rfl (YJ_loadFactN (vs := [_, _]) rfl tyi_53 (by repeat first | exact .head _ | apply List.Mem.tail) rfl rfl) ?_
                  refine LJ_call0 rfl rfl rfl rfl rfl (circle_c ha he hc hp) (AllIn.sub (by first | exact trivial | exact And.intro (by repeat first | exact .head _ | apply List.Mem.tail) trivial | exact And.intro (by repeat first | exact .head _ | apply List.Mem.tail) (And.intro (by repeat first | exact .head _ | apply List.Mem.tail) trivial))) ?_
                  refine LJ_y rfl rfl (YJ_bin rfl rfl rfl) ?_
                  refine LJ_val (v := .bool true) (congrArg Value.bool (decide_eq_true (by rcases hci h117 with h | h; exact h.2; exact absurd h.2 h125))) ?_
                  refine LJ_y rfl rfl (YJ_pickT rfl rfl) ?_
                  refine LJ_y rfl rfl (YJ_pickF rfl rfl) ?_
                  refine LJ_y rfl rfl (YJ_assign rfl) ?_
                  refine LJ_nil ?_
                  refine QJ_then ?_
                  refine CJ_ret ?_
                  refine QJ_fin (.inl rfl) (μ' := []) (μr := _) (φ' := []) (res_tmp rfl rfl) (List.Perm.refl _) (fun _ h => nomatch h) ?_
                  exact ⟨rfl, rfl, rfl⟩
            · try simp only [decide_eq_true_eq, decide_eq_false_iff_not, Bool.not_eq_true', Bool.not_eq_false', Bool.and_eq_true, Bool.and_eq_false_iff, beq_iff_eq, bne_iff_ne, beq_eq_false_iff_ne, bne_eq_false_iff_eq, ne_eq, decide_eq_decide] at h110
              first | refine LJ_y rfl rfl (YJ_loadN (vs := [_, _]) rfl tyi_53 (by repeat first | exact .head _ | apply List.Mem.tail) rfl rfl) ?_ | refine LJ_y rfl rfl (YJ_loadFactN (vs := [_, _]) rfl tyi_53 (by repeat first | exact .head _ | apply List.Mem.tail) rfl rfl) ?_
              first | refine LJ_y rfl rfl (YJ_loadN (vs := [_, _]) rfl tyi_53 (by repeat first | exact .head _ | apply List.Mem.tail) rfl rfl) ?_ | refine LJ_y rfl rfl (YJ_loadFactN (vs := [_, _]) rfl tyi_53 (by repeat first | exact .head _ | apply List.Mem.tail) rfl rfl) ?_
              refine LJ_y rfl rfl (YJ_eqs rfl rfl (fun _ => eqs_eql_53 ..)) ?_
              refine LJ_y rfl rfl (YJ_pickF rfl rfl) ?_
              refine LJ_y rfl rfl (YJ_assign rfl) ?_
              refine LJ_nil ?_
              refine QJ_then ?_
              refine CJ_seq ?_
              refine CJ_reg ?_
              refine LJ_y rfl rfl (YJ_move rfl) ?_
              refine LJ_y rfl rfl (YJ_not rfl) ?_
              refine LJ_y rfl rfl (YJ_move rfl) ?_
              refine LJ_boolC (fun h117 => ?_) (fun h117 => ?_)
              · try simp only [decide_eq_true_eq, decide_eq_false_iff_not, Bool.not_eq_true', Bool.not_eq_false', Bool.and_eq_true, Bool.and_eq_false_iff, beq_iff_eq, bne_iff_ne, beq_eq_false_iff_ne, bne_eq_false_iff_eq, ne_eq, decide_eq_decide] at h117
                refine LJ_skip rfl rfl ?_
                refine LJ_skip rfl rfl ?_
                refine LJ_skip rfl rfl ?_
                refine LJ_skip rfl rfl ?_
                refine LJ_skip rfl rfl ?_
                refine LJ_skip rfl rfl ?_
                refine LJ_y rfl rfl (YJ_pickT rfl rfl) ?_
                refine LJ_y rfl rfl (YJ_move rfl) ?_
                refine LJ_skip rfl rfl ?_
                refine LJ_skip rfl rfl ?_
                refine LJ_skip rfl rfl ?_
                refine LJ_skip rfl rfl ?_
                refine LJ_skip rfl rfl ?_
                refine LJ_skip rfl rfl ?_
                refine LJ_skip rfl rfl ?_
                refine LJ_skip rfl rfl ?_
                refine LJ_skip rfl rfl ?_
                refine LJ_y rfl rfl (YJ_pickT rfl rfl) ?_
                refine LJ_y rfl rfl (YJ_assign rfl) ?_
                refine LJ_nil ?_
                refine QJ_then ?_
                refine CJ_ret ?_
                refine QJ_fin (.inl rfl) (μ' := []) (μr := _) (φ' := []) (res_tmp rfl rfl) (List.Perm.refl _) (fun _ h => nomatch h) ?_
                exact ⟨rfl, rfl, rfl⟩
              · try simp only [decide_eq_true_eq, decide_eq_false_iff_not, Bool.not_eq_true', Bool.not_eq_false', Bool.and_eq_true, Bool.and_eq_false_iff, beq_iff_eq, bne_iff_ne, beq_eq_false_iff_ne, bne_eq_false_iff_eq, ne_eq, decide_eq_decide] at h117
                first | refine LJ_y rfl rfl (YJ_loadN (vs := [_, _]) rfl tyi_53 (by repeat first | exact .head _ | apply List.Mem.tail) rfl rfl) ?_ | refine LJ_y rfl rfl (YJ_loadFactN (vs := [_, _]) rfl tyi_53 (by repeat first | exact .head _ | apply List.Mem.tail) rfl rfl) ?_
                first | refine LJ_y rfl rfl (YJ_loadN (vs := [_, _]) rfl tyi_53 (by repeat first | exact .head _ | apply List.Mem.tail) rfl rfl) ?_ | refine LJ_y rfl rfl (YJ_loadFactN (vs := [_, _]) rfl tyi_53 (by repeat first | exact .head _ | apply List.Mem.tail) rfl rfl) ?_
                first | refine LJ_y rfl rfl (YJ_loadN (vs := [_, _]) rfl tyi_53 (by repeat first | exact .head _ | apply List.Mem.tail) rfl rfl) ?_ | refine LJ_y rfl rfl (YJ_loadFactN (vs := [_, _]) rfl tyi_53 (by repeat first | exact .head _ | apply List.Mem.tail) rfl rfl) ?_
                first | refine LJ_y rfl rfl (YJ_loadN (vs := [_, _]) rfl tyi_53 (by repeat first | exact .head _ | apply List.Mem.tail) rfl rfl) ?_ | refine LJ_y rfl rfl (YJ_loadFactN (vs := [_, _]) rfl tyi_53 (by repeat first | exact .head _ | apply List.Mem.tail) rfl rfl) ?_
                refine LJ_call0 rfl rfl rfl rfl rfl (circle_c ha he hc hp) (AllIn.sub (by first | exact trivial | exact And.intro (by repeat first | exact .head _ | apply List.Mem.tail) trivial | exact And.intro (by repeat first | exact .head _ | apply List.Mem.tail) (And.intro (by repeat first | exact .head _ | apply List.Mem.tail) trivial))) ?_
                refine LJ_y rfl rfl (YJ_bin rfl rfl rfl) ?_
                refine LJ_y rfl rfl (YJ_pickF rfl rfl) ?_
                refine LJ_y rfl rfl (YJ_move rfl) ?_
                refine LJ_boolC (fun h125 => ?_) (fun h125 => ?_)
                · try simp only [decide_eq_true_eq, decide_eq_false_iff_not, Bool.not_eq_true', Bool.not_eq_false', Bool.and_eq_true, Bool.and_eq_false_iff, beq_iff_eq, bne_iff_ne, beq_eq_false_iff_ne, bne_eq_false_iff_eq, ne_eq, decide_eq_decide] at h125
                  refine LJ_skip rfl rfl ?_
                  refine LJ_skip rfl rfl ?_
                  refine LJ_skip rfl rfl ?_
                  refine LJ_skip rfl rfl ?_
                  refine LJ_skip rfl rfl ?_
                  refine LJ_skip rfl rfl ?_
                  refine LJ_skip rfl rfl ?_
                  refine LJ_skip rfl rfl ?_
                  refine LJ_skip rfl rfl ?_
                  refine LJ_y rfl rfl (YJ_pickT rfl rfl) ?_
                  refine LJ_y rfl rfl (YJ_assign rfl) ?_
                  refine LJ_nil ?_
                  refine QJ_then ?_
                  refine CJ_ret ?_
                  refine QJ_fin (.inl rfl) (μ' := []) (μr := _) (φ' := []) (res_tmp rfl rfl) (List.Perm.refl _) (fun _ h => nomatch h) ?_
                  exact ⟨rfl, rfl, rfl⟩
                · try simp only [decide_eq_true_eq, decide_eq_false_iff_not, Bool.not_eq_true', Bool.not_eq_false', Bool.and_eq_true, Bool.and_eq_false_iff, beq_iff_eq, bne_iff_ne, beq_eq_false_iff_ne, bne_eq_false_iff_eq, ne_eq, decide_eq_decide] at h125
                  refine LJ_y rfl rfl (YJ_move rfl) ?_
                  refine LJ_y rfl rfl (YJ_move rfl) ?_
                  refine LJ_boolC (fun h127 => ?_) (fun h127 => ?_)
                  · try simp only [decide_eq_true_eq, decide_eq_false_iff_not, Bool.not_eq_true', Bool.not_eq_false', Bool.and_eq_true, Bool.and_eq_false_iff, beq_iff_eq, bne_iff_ne, beq_eq_false_iff_ne, bne_eq_false_iff_eq, ne_eq, decide_eq_decide] at h127
                    first | refine LJ_y rfl rfl (YJ_loadN (vs := [_, _]) rfl tyi_53 (by repeat first | exact .head _ | apply List.Mem.tail) rfl rfl) ?_ | refine LJ_y rfl rfl (YJ_loadFactN (vs := [_, _]) rfl tyi_53 (by repeat first | exact .head _ | apply List.Mem.tail) rfl rfl) ?_
                    first | refine LJ_y rfl rfl (YJ_loadN (vs := [_, _]) rfl tyi_53 (by repeat first | exact .head _ | apply List.Mem.tail) rfl rfl) ?_ | refine LJ_y rfl rfl (YJ_loadFactN (vs := [_, _]) rfl tyi_53 (by repeat first | exact .head _ | apply List.Mem.tail) rfl rfl) ?_
                    first | refine LJ_y rfl rfl (YJ_loadN (vs := [_, _]) rfl tyi_53 (by repeat first | exact .head _ | apply List.Mem.tail) rfl rfl) ?_ | refine LJ_y rfl rfl (YJ_loadFactN (vs := [_, _]) rfl tyi_53 (by repeat first | exact .head _ | apply List.Mem.tail) rfl rfl) ?_
                    first | refine LJ_y rfl rfl (YJ_loadN (vs := [_, _]) rfl tyi_53 (by repeat first | exact .head _ | apply List.Mem.tail) rfl rfl) ?_ | refine LJ_y rfl rfl (YJ_loadFactN (vs := [_, _]) rfl tyi_53 (by repeat first | exact .head _ | apply List.Mem.tail) rfl rfl) ?_
                    refine LJ_call0 rfl rfl rfl rfl rfl (circle_c ha he hc hp) (AllIn.sub (by first | exact trivial | exact And.intro (by repeat first | exact .head _ | apply List.Mem.tail) trivial | exact And.intro (by repeat first | exact .head _ | apply List.Mem.tail) (And.intro (by repeat first | exact .head _ | apply List.Mem.tail) trivial))) ?_
                    refine LJ_y rfl rfl (YJ_bin rfl rfl rfl) ?_
                    refine LJ_val (v := .bool true) (congrArg Value.bool (decide_eq_true (by rcases hci h117 with h | h; exact h.2; exact absurd h.2 h125))) ?_
                    refine LJ_y rfl rfl (YJ_pickT rfl rfl) ?_
                    refine LJ_y rfl rfl (YJ_pickF rfl rfl) ?_
                    refine LJ_y rfl rfl (YJ_assign rfl) ?_
                    refine LJ_nil ?_
                    refine QJ_then ?_
                    refine CJ_ret ?_
                    refine QJ_fin (.inl rfl) (μ' := []) (μr := _) (φ' := []) (res_tmp rfl rfl) (List.Perm.refl _) (fun _ h => nomatch h) ?_
                    exact ⟨rfl, rfl, rfl⟩
                  · try simp only [decide_eq_true_eq, decide_eq_false_iff_not, Bool.not_eq_true', Bool.not_eq_false', Bool.and_eq_true, Bool.and_eq_false_iff, beq_iff_eq, bne_iff_ne, beq_eq_false_iff_ne, bne_eq_false_iff_eq, ne_eq, decide_eq_decide] at h127
                    exfalso
                    rcases hci h117 with ⟨hc2, -⟩ | ⟨-, h1⟩
                    · omega
                    · exact absurd h1 h125
        · try simp only [decide_eq_true_eq, decide_eq_false_iff_not, Bool.not_eq_true', Bool.not_eq_false', Bool.and_eq_true, Bool.and_eq_false_iff, beq_iff_eq, bne_iff_ne, beq_eq_false_iff_ne, bne_eq_false_iff_eq, ne_eq, decide_eq_decide] at h87
          first | refine AJ_y 20 rfl (by kernel_rfl) (by kernel_rfl) rfl rfl (YJ_loadN (vs := [_, _]) rfl tyi_53 (by repeat first | exact .head _ | apply List.Mem.tail) rfl rfl) ?_ | refine AJ_y 20 rfl (by kernel_rfl) (by kernel_rfl) rfl rfl (YJ_loadFactN (vs := [_, _]) rfl tyi_53 (by repeat first | exact .head _ | apply List.Mem.tail) rfl rfl) ?_
          first | refine AJ_y 21 rfl (by kernel_rfl) (by kernel_rfl) rfl rfl (YJ_loadN (vs := [_, _]) rfl tyi_53 (by repeat first | exact .head _ | apply List.Mem.tail) rfl rfl) ?_ | refine AJ_y 21 rfl (by kernel_rfl) (by kernel_rfl) rfl rfl (YJ_loadFactN (vs := [_, _]) rfl tyi_53 (by repeat first | exact .head _ | apply List.Mem.tail) rfl rfl) ?_
          first | refine AJ_y 22 rfl (by kernel_rfl) (by kernel_rfl) rfl rfl (YJ_loadN (vs := [_, _]) rfl tyi_53 (by repeat first | exact .head _ | apply List.Mem.tail) rfl rfl) ?_ | refine AJ_y 22 rfl (by kernel_rfl) (by kernel_rfl) rfl rfl (YJ_loadFactN (vs := [_, _]) rfl tyi_53 (by repeat first | exact .head _ | apply List.Mem.tail) rfl rfl) ?_
          refine AJ_call0 23 rfl (by kernel_rfl) rfl rfl rfl rfl rfl (on_c hp hc ha) (AllIn.sub (by first | exact trivial | exact And.intro (by repeat first | exact .head _ | apply List.Mem.tail) trivial | exact And.intro (by repeat first | exact .head _ | apply List.Mem.tail) (And.intro (by repeat first | exact .head _ | apply List.Mem.tail) trivial))) ?_
          refine AJ_y 24 rfl (by kernel_rfl) (by kernel_rfl) rfl rfl (YJ_pickF rfl rfl) ?_
          refine AJ_y 25 rfl (by kernel_rfl) (by kernel_rfl) rfl rfl (YJ_move rfl) ?_
          refine AJ_boolC (fun h93 => ?_) (fun h93 => ?_)
          · try simp only [decide_eq_true_eq, decide_eq_false_iff_not, Bool.not_eq_true', Bool.not_eq_false', Bool.and_eq_true, Bool.and_eq_false_iff, beq_iff_eq, bne_iff_ne, beq_eq_false_iff_ne, bne_eq_false_iff_eq, ne_eq, decide_eq_decide] at h93
            refine AJ_skip 26 rfl (by kernel_rfl) (by kernel_rfl) rfl rfl ?_
            refine AJ_skip 27 rfl (by kernel_rfl) (by kernel_rfl) rfl rfl ?_
            refine AJ_skip 28 rfl (by kernel_rfl) (by kernel_rfl) rfl rfl ?_
            refine AJ_skip 29 rfl (by kernel_rfl) (by kernel_rfl) rfl rfl ?_
            refine AJ_skip 30 rfl (by kernel_rfl) (by kernel_rfl) rfl rfl ?_
            refine AJ_y 31 rfl (by kernel_rfl) (by kernel_rfl) rfl rfl (YJ_pickT rfl rfl) ?_
            refine AJ_y 32 rfl (by kernel_rfl) (by kernel_rfl) rfl rfl (YJ_neb rfl rfl ubool_4) ?_
            refine AJ_val (v := .bool false) (congrArg Value.bool (by first | (rw [bne_eq_false_iff_eq, decide_eq_true_iff]; rw [hin]; simp only [*, true_or, or_true]) | (rw [bne_eq_false_iff_eq, decide_eq_decide]; rw [hin]; simp only [*, false_or]))) ?_
            refine AJ_y 33 rfl (by kernel_rfl) (by kernel_rfl) rfl rfl (YJ_pickF rfl rfl) ?_
            refine AJ_done (by kernel_rfl) ?_
            refine QJ_then ?_
            refine CJ_condF rfl ?_
            refine CJ_skip ?_
            refine QJ_then ?_
            refine CJ_seq ?_
            refine CJ_reg ?_
            first | refine LJ_y rfl rfl (YJ_loadN (vs := [_, _]) rfl tyi_53 (by repeat first | exact .head _ | apply List.Mem.tail) rfl rfl) ?_ | refine LJ_y rfl rfl (YJ_loadFactN (vs := [_, _]) rfl tyi_53 (by repeat first | exact .head _ | apply List.Mem.tail) rfl rfl) ?_
            first | refine LJ_y rfl rfl (YJ_loadN (vs := [_, _]) rfl tyi_53 (by repeat first | exact .head _ | apply List.Mem.tail) rfl rfl) ?_ | refine LJ_y rfl rfl (YJ_loadFactN (vs := [_, _]) rfl tyi_53 (by repeat first | exact .head _ | apply List.Mem.tail) rfl rfl) ?_
            refine LJ_y rfl rfl (YJ_eqs rfl rfl (fun _ => eqs_eql_53 ..)) ?_
            refine LJ_y rfl rfl (YJ_move rfl) ?_
            refine LJ_boolC (fun h105 => ?_) (fun h105 => ?_)
            · try simp only [decide_eq_true_eq, decide_eq_false_iff_not, Bool.not_eq_true', Bool.not_eq_false', Bool.and_eq_true, Bool.and_eq_false_iff, beq_iff_eq, bne_iff_ne, beq_eq_false_iff_ne, bne_eq_false_iff_eq, ne_eq, decide_eq_decide] at h105
              refine LJ_skip rfl rfl ?_
              refine LJ_skip rfl rfl ?_
              refine LJ_skip rfl rfl ?_
              refine LJ_y rfl rfl (YJ_pickT rfl rfl) ?_
              refine LJ_y rfl rfl (YJ_move rfl) ?_
              refine LJ_skip rfl rfl ?_
              refine LJ_skip rfl rfl ?_
              refine LJ_skip rfl rfl ?_
              refine LJ_y rfl rfl (YJ_pickT rfl rfl) ?_
              refine LJ_y rfl rfl (YJ_assign rfl) ?_
              refine LJ_nil ?_
              refine QJ_then ?_
              refine CJ_seq ?_
              refine CJ_reg ?_
              refine LJ_y rfl rfl (YJ_move rfl) ?_
              refine LJ_y rfl rfl (YJ_not rfl) ?_
              refine LJ_y rfl rfl (YJ_move rfl) ?_
              refine LJ_boolC (fun h117 => ?_) (fun h117 => ?_)
              · try simp only [decide_eq_true_eq, decide_eq_false_iff_not, Bool.not_eq_true', Bool.not_eq_false', Bool.and_eq_true, Bool.and_eq_false_iff, beq_iff_eq, bne_iff_ne, beq_eq_false_iff_ne, bne_eq_false_iff_eq, ne_eq, decide_eq_decide] at h117
                refine LJ_skip rfl rfl ?_
                refine LJ_skip rfl rfl ?_
                refine LJ_skip rfl rfl ?_
                refine LJ_skip rfl rfl ?_
                refine LJ_skip rfl rfl ?_
                refine LJ_skip rfl rfl ?_
                refine LJ_y rfl rfl (YJ_pickT rfl rfl) ?_
                refine LJ_y rfl rfl (YJ_move rfl) ?_
                refine LJ_skip rfl rfl ?_
                refine LJ_skip rfl rfl ?_
                refine LJ_skip rfl rfl ?_
                refine LJ_skip rfl rfl ?_
                refine LJ_skip rfl rfl ?_
                refine LJ_skip rfl rfl ?_
                refine LJ_skip rfl rfl ?_
                refine LJ_skip rfl rfl ?_
                refine LJ_skip rfl rfl ?_
                refine LJ_y rfl rfl (YJ_pickT rfl rfl) ?_
                refine LJ_y rfl rfl (YJ_assign rfl) ?_
                refine LJ_nil ?_
                refine QJ_then ?_
                refine CJ_ret ?_
                refine QJ_fin (.inl rfl) (μ' := []) (μr := _) (φ' := []) (res_tmp rfl rfl) (List.Perm.refl _) (fun _ h => nomatch h) ?_
                exact ⟨rfl, rfl, rfl⟩
              · try simp only [decide_eq_true_eq, decide_eq_false_iff_not, Bool.not_eq_true', Bool.not_eq_false', Bool.and_eq_true, Bool.and_eq_false_iff, beq_iff_eq, bne_iff_ne, beq_eq_false_iff_ne, bne_eq_false_iff_eq, ne_eq, decide_eq_decide] at h117
                first | refine LJ_y rfl rfl (YJ_loadN (vs := [_, _]) rfl tyi_53 (by repeat first | exact .head _ | apply List.Mem.tail) rfl rfl) ?_ | refine LJ_y rfl rfl (YJ_loadFactN (vs := [_, _]) rfl tyi_53 (by repeat first | exact .head _ | apply List.Mem.tail) rfl rfl) ?_
                first | refine LJ_y rfl rfl (YJ_loadN (vs := [_, _]) rfl tyi_53 (by repeat first | exact .head _ | apply List.Mem.tail) rfl rfl) ?_ | refine LJ_y rfl rfl (YJ_loadFactN (vs := [_, _]) rfl tyi_53 (by repeat first | exact .head _ | apply List.Mem.tail) rfl rfl) ?_
                first | refine LJ_y rfl rfl (YJ_loadN (vs := [_, _]) rfl tyi_53 (by repeat first | exact .head _ | apply List.Mem.tail) rfl rfl) ?_ | refine LJ_y rfl rfl (YJ_loadFactN (vs := [_, _]) rfl tyi_53 (by repeat first | exact .head _ | apply List.Mem.tail) rfl rfl) ?_
                first | refine LJ_y rfl rfl (YJ_loadN (vs := [_, _]) rfl tyi_53 (by repeat first | exact .head _ | apply List.Mem.tail) rfl rfl) ?_ | refine LJ_y rfl rfl (YJ_loadFactN (vs := [_, _]) rfl tyi_53 (by repeat first | exact .head _ | apply List.Mem.tail) rfl rfl) ?_
                refine LJ_call0 rfl rfl rfl rfl rfl (circle_c ha he hc hp) (AllIn.sub (by first | exact trivial | exact And.intro (by repeat first | exact .head _ | apply List.Mem.tail) trivial | exact And.intro (by repeat first | exact .head _ | apply List.Mem.tail) (And.intro (by repeat first | exact .head _ | apply List.Mem.tail) trivial))) ?_
                refine LJ_y rfl rfl (YJ_bin rfl rfl rfl) ?_
                refine LJ_y rfl rfl (YJ_pickF rfl rfl) ?_
                refine LJ_y rfl rfl (YJ_move rfl) ?_
                refine LJ_boolC (fun h125 => ?_) (fun h125 => ?_)
                · try simp only [decide_eq_true_eq, decide_eq_false_iff_not, Bool.not_eq_true', Bool.not_eq_false', Bool.and_eq_true, Bool.and_eq_false_iff, beq_iff_eq, bne_iff_ne, beq_eq_false_iff_ne, bne_eq_false_iff_eq, ne_eq, decide_eq_decide] at h125
                  refine LJ_skip rfl rfl ?_
                  refine LJ_skip rfl rfl ?_
                  refine LJ_skip rfl rfl ?_
                  refine LJ_skip rfl rfl ?_
                  refine LJ_skip rfl rfl ?_
                  refine LJ_skip rfl rfl ?_
                  refine LJ_skip rfl rfl ?_
                  refine LJ_skip rfl rfl ?_
                  refine LJ_skip rfl rfl ?_
                  refine LJ_y rfl rfl (YJ_pickT rfl rfl) ?_
                  refine LJ_y rfl rfl (YJ_assign rfl) ?_
                  refine LJ_nil ?_
                  refine QJ_then ?_
                  refine CJ_ret ?_
                  refine QJ_fin (.inl rfl) (μ' := []) (μr := _) (φ' := []) (res_tmp rfl rfl) (List.Perm.refl _) (fun _ h => nomatch h) ?_
                  exact ⟨rfl, rfl, rfl⟩
                · try simp only [decide_eq_true_eq, decide_eq_false_iff_not, Bool.not_eq_true', Bool.not_eq_false', Bool.and_eq_true, Bool.and_eq_false_iff, beq_iff_eq, bne_iff_ne, beq_eq_false_iff_ne, bne_eq_false_iff_eq, ne_eq, decide_eq_decide] at h125
                  refine LJ_y rfl rfl (YJ_move rfl) ?_
                  refine LJ_y rfl rfl (YJ_move rfl) ?_
                  first | refine LJ_y rfl rfl (YJ_loadN (vs := [_, _]) rfl tyi_53 (by repeat first | exact .head _ | apply List.Mem.tail) rfl rfl) ?_ | refine LJ_y rfl rfl (YJ_loadFactN (vs := [_, _]) rfl tyi_53 (by repeat first | exact .head _ | apply List.Mem.tail) rfl rfl) ?_
                  first | refine LJ_y rfl rfl (YJ_loadN (vs := [_, _]) rfl tyi_53 (by repeat first | exact .head _ | apply List.Mem.tail) rfl rfl) ?_ | refine LJ_y rfl rfl (YJ_loadFactN (vs := [_, _]) rfl tyi_53 (by repeat first | exact .head _ | apply List.Mem.tail) rfl rfl) ?_
                  first | refine LJ_y rfl rfl (YJ_loadN (vs := [_, _]) rfl tyi_53 (by repeat first | exact .head _ | apply List.Mem.tail) rfl rfl) ?_ | refine LJ_y rfl rfl (YJ_loadFactN (vs := [_, _]) rfl tyi_53 (by repeat first | exact .head _ | apply List.Mem.tail) rfl rfl) ?_
                  first | refine LJ_y rfl rfl (YJ_loadN (vs := [_, _]) rfl tyi_53 (by repeat first | exact .head _ | apply List.Mem.tail) rfl rfl) ?_ | refine LJ_y rfl rfl (YJ_loadFactN (vs := [_, _]) rfl tyi_53 (by repeat first | exact .head _ | apply List.Mem.tail) rfl rfl) ?_
                  refine LJ_call0 rfl rfl rfl rfl rfl (circle_c ha he hc hp) (AllIn.sub (by first | exact trivial | exact And.intro (by repeat first | exact .head _ | apply List.Mem.tail) trivial | exact And.intro (by repeat first | exact .head _ | apply List.Mem.tail) (And.intro (by repeat first | exact .head _ | apply List.Mem.tail) trivial))) ?_
                  refine LJ_y rfl rfl (YJ_bin rfl rfl rfl) ?_
                  refine LJ_val (v := .bool true) (congrArg Value.bool (decide_eq_true (by rcases hci h117 with h | h; exact h.2; exact absurd h.2 h125))) ?_
                  refine LJ_y rfl rfl (YJ_pickT rfl rfl) ?_
                  refine LJ_y rfl rfl (YJ_pickF rfl rfl) ?_
                  refine LJ_y rfl rfl (YJ_assign rfl) ?_
                  refine LJ_nil ?_
                  refine QJ_then ?_
                  refine CJ_ret ?_
                  refine QJ_fin (.inl rfl) (μ' := []) (μr := _) (φ' := []) (res_tmp rfl rfl) (List.Perm.refl _) (fun _ h => nomatch h) ?_
                  exact ⟨rfl, rfl, rfl⟩
            · try simp only [decide_eq_true_eq, decide_eq_false_iff_not, Bool.not_eq_true', Bool.not_eq_false', Bool.and_eq_true, Bool.and_eq_false_iff, beq_iff_eq, bne_iff_ne, beq_eq_false_iff_ne, bne_eq_false_iff_eq, ne_eq, decide_eq_decide] at h105
              first | refine LJ_y rfl rfl (YJ_loadN (vs := [_, _]) rfl tyi_53 (by repeat first | exact .head _ | apply List.Mem.tail) rfl rfl) ?_ | refine LJ_y rfl rfl (YJ_loadFactN (vs := [_, _]) rfl tyi_53 (by repeat first | exact .head _ | apply List.Mem.tail) rfl rfl) ?_
              first | refine LJ_y rfl rfl (YJ_loadN (vs := [_, _]) rfl tyi_53 (by repeat first | exact .head _ | apply List.Mem.tail) rfl rfl) ?_ | refine LJ_y rfl rfl (YJ_loadFactN (vs := [_, _]) rfl tyi_53 (by repeat first | exact .head _ | apply List.Mem.tail) rfl rfl) ?_
              refine LJ_y rfl rfl (YJ_eqs rfl rfl (fun _ => eqs_eql_53 ..)) ?_
              refine LJ_y rfl rfl (YJ_pickF rfl rfl) ?_
              refine LJ_y rfl rfl (YJ_move rfl) ?_
              refine LJ_boolC (fun h110 => ?_) (fun h110 => ?_)
              · try simp only [decide_eq_true_eq, decide_eq_false_iff_not, Bool.not_eq_true', Bool.not_eq_false', Bool.and_eq_true, Bool.and_eq_false_iff, beq_iff_eq, bne_iff_ne, beq_eq_false_iff_ne, bne_eq_false_iff_eq, ne_eq, decide_eq_decide] at h110
                refine LJ_skip rfl rfl ?_
                refine LJ_skip rfl rfl ?_
                refine LJ_skip rfl rfl ?_
                refine LJ_y rfl rfl (YJ_pickT rfl rfl) ?_
                refine LJ_y rfl rfl (YJ_assign rfl) ?_
                refine LJ_nil ?_
                refine QJ_then ?_
                refine CJ_seq ?_
                refine CJ_reg ?_
                refine LJ_y rfl rfl (YJ_move rfl) ?_
                refine LJ_y rfl rfl (YJ_not rfl) ?_
                refine LJ_y rfl rfl (YJ_move rfl) ?_
                refine LJ_boolC (fun h117 => ?_) (fun h117 => ?_)
                · try simp only [decide_eq_true_eq, decide_eq_false_iff_not, Bool.not_eq_true', Bool.not_eq_false', Bool.and_eq_true, Bool.and_eq_false_iff, beq_iff_eq, bne_iff_ne, beq_eq_false_iff_ne, bne_eq_false_iff_eq, ne_eq, decide_eq_decide] at h117
                  refine LJ_skip rfl rfl ?_
                  refine LJ_skip rfl rfl ?_
                  refine LJ_skip rfl rfl ?_
                  refine LJ_skip rfl rfl ?_
                  refine LJ_skip rfl rfl ?_
                  refine LJ_skip rfl rfl ?_
                  refine LJ_y rfl rfl (YJ_pickT rfl rfl) ?_
                  refine LJ_y rfl rfl (YJ_move rfl) ?_
                  refine LJ_skip rfl rfl ?_
                  refine LJ_skip rfl rfl ?_
                  refine LJ_skip rfl rfl ?_
                  refine LJ_skip rfl rfl ?_
                  refine LJ_skip rfl rfl ?_
                  refine LJ_skip rfl rfl ?_
                  refine LJ_skip rfl rfl ?_
                  refine LJ_skip rfl rfl ?_
                  refine LJ_skip rfl rfl ?_
                  refine LJ_y rfl rfl (YJ_pickT rfl rfl) ?_
                  refine LJ_y rfl rfl (YJ_assign rfl) ?_
                  refine LJ_nil ?_
                  refine QJ_then ?_
                  refine CJ_ret ?_
                  refine QJ_fin (.inl rfl) (μ' := []) (μr := _) (φ' := []) (res_tmp rfl rfl) (List.Perm.refl _) (fun _ h => nomatch h) ?_
                  exact ⟨rfl, rfl, rfl⟩
                · try simp only [decide_eq_true_eq, decide_eq_false_iff_not, Bool.not_eq_true', Bool.not_eq_false', Bool.and_eq_true, Bool.and_eq_false_iff, beq_iff_eq, bne_iff_ne, beq_eq_false_iff_ne, bne_eq_false_iff_eq, ne_eq, decide_eq_decide] at h117
                  first | refine LJ_y rfl rfl (YJ_loadN (vs := [_, _]) rfl tyi_53 (by repeat first | exact .head _ | apply List.Mem.tail) rfl rfl) ?_ | refine LJ_y rfl rfl (YJ_loadFactN (vs := [_, _]) rfl tyi_53 (by repeat first | exact .head _ | apply List.Mem.tail) rfl rfl) ?_
                  first | refine LJ_y rfl rfl (YJ_loadN (vs := [_, _]) rfl tyi_53 (by repeat first | exact .head _ | apply List.Mem.tail) rfl rfl) ?_ | refine LJ_y rfl rfl (YJ_loadFactN (vs := [_, _]) rfl tyi_53 (by repeat first | exact .head _ | apply List.Mem.tail) rfl rfl) ?_
                  first | refine LJ_y rfl rfl (YJ_loadN (vs := [_, _]) rfl tyi_53 (by repeat first | exact .head _ | apply List.Mem.tail) rfl rfl) ?_ | refine LJ_y rfl rfl (YJ_loadFactN (vs := [_, _]) rfl tyi_53 (by repeat first | exact .head _ | apply List.Mem.tail) rfl rfl) ?_
                  first | refine LJ_y rfl rfl (YJ_loadN (vs := [_, _]) rfl tyi_53 (by repeat first | exact .head _ | apply List.Mem.tail) rfl rfl) ?_ | refine LJ_y rfl rfl (YJ_loadFactN (vs := [_, _]) rfl tyi_53 (by repeat first | exact .head _ | apply List.Mem.tail) rfl rfl) ?_
                  refine LJ_call0 rfl rfl rfl rfl rfl (circle_c ha he hc hp) (AllIn.sub (by first | exact trivial | exact And.intro (by repeat first | exact .head _ | apply List.Mem.tail) trivial | exact And.intro (by repeat first | exact .head _ | apply List.Mem.tail) (And.intro (by repeat first | exact .head _ | apply List.Mem.tail) trivial))) ?_
                  refine LJ_y rfl rfl (YJ_bin rfl rfl rfl) ?_
                  refine LJ_y rfl rfl (YJ_pickF rfl rfl) ?_
                  refine LJ_y rfl rfl (YJ_move rfl) ?_
                  refine LJ_boolC (fun h125 => ?_) (fun h125 => ?_)
                  · try simp only [decide_eq_true_eq, decide_eq_false_iff_not, Bool.not_eq_true', Bool.not_eq_false', Bool.and_eq_true, Bool.and_eq_false_iff, beq_iff_eq, bne_iff_ne, beq_eq_false_iff_ne, bne_eq_false_iff_eq, ne_eq, decide_eq_decide] at h125
                    refine LJ_skip rfl rfl ?_
                    refine LJ_skip rfl rfl ?_
                    refine LJ_skip rfl rfl ?_
                    refine LJ_skip rfl rfl ?_
                    refine LJ_skip rfl rfl ?_
                    refine LJ_skip rfl rfl ?_
                    refine LJ_skip rfl rfl ?_
                    refine LJ_skip rfl rfl ?_
                    refine LJ_skip rfl rfl ?_
                    refine LJ_y rfl rfl (YJ_pickT rfl rfl) ?_
                    refine LJ_y rfl rfl (YJ_assign rfl) ?_
                    refine LJ_nil ?_
                    refine QJ_then ?_
                    refine CJ_ret ?_
                    refine QJ_fin (.inl rfl) (μ' := []) (μr := _) (φ' := []) (res_tmp rfl rfl) (List.Perm.refl _) (fun _ h => nomatch h) ?_
                    exact ⟨rfl, rfl, rfl⟩
                  · try simp only [decide_eq_true_eq, decide_eq_false_iff_not, Bool.not_eq_true', Bool.not_eq_false', Bool.and_eq_true, Bool.and_eq_false_iff, beq_iff_eq, bne_iff_ne, beq_eq_false_iff_ne, bne_eq_false_iff_eq, ne_eq, decide_eq_decide] at h125
                    refine LJ_y rfl rfl (YJ_move rfl) ?_
                    refine LJ_y rfl rfl (YJ_move rfl) ?_
                    first | refine LJ_y rfl rfl (YJ_loadN (vs := [_, _]) rfl tyi_53 (by repeat first | exact .head _ | apply List.Mem.tail) rfl rfl) ?_ | refine LJ_y rfl rfl (YJ_loadFactN (vs := [_, _]) rfl tyi_53 (by repeat first | exact .head _ | apply List.Mem.tail) rfl rfl) ?_
                    first | refine LJ_y rfl rfl (YJ_loadN (vs := [_, _]) rfl tyi_53 (by repeat first | exact .head _ | apply List.Mem.tail) rfl rfl) ?_ | refine LJ_y rfl rfl (YJ_loadFactN (vs := [_, _]) rfl tyi_53 (by repeat first | exact .head _ | apply List.Mem.tail) rfl rfl) ?_
                    first | refine LJ_y rfl rfl (YJ_loadN (vs := [_, _]) rfl tyi_53 (by repeat first | exact .head _ | apply List.Mem.tail) rfl rfl) ?_ | refine LJ_y rfl rfl (YJ_loadFactN (vs := [_, _]) rfl tyi_53 (by repeat first | exact .head _ | apply List.Mem.tail) rfl rfl) ?_
                    first | refine LJ_y rfl rfl (YJ_loadN (vs := [_, _]) rfl tyi_53 (by repeat first | exact .head _ | apply List.Mem.tail) rfl rfl) ?_ | refine LJ_y rfl rfl (YJ_loadFactN (vs := [_, _]) rfl tyi_53 (by repeat first | exact .head _ | apply List.Mem.tail) rfl rfl) ?_
                    refine LJ_call0 rfl rfl rfl rfl rfl (circle_c ha he hc hp) (AllIn.sub (by first | exact trivial | exact And.intro (by repeat first | exact .head _ | apply List.Mem.tail) trivial | exact And.intro (by repeat first | exact .head _ | apply List.Mem.tail) (And.intro (by repeat first | exact .head _ | apply List.Mem.tail) trivial))) ?_
                    refine LJ_y rfl rfl (YJ_bin rfl rfl rfl) ?_
                    refine LJ_val (v := .bool true) (congrArg Value.bool (decide_eq_true (by rcases hci h117 with h | h; exact h.2; exact absurd h.2 h125))) ?_
                    refine LJ_y rfl rfl (YJ_pickT rfl rfl) ?_
                    refine LJ_y rfl rfl (YJ_pickF rfl rfl) ?_
                    refine LJ_y rfl rfl (YJ_assign rfl) ?_
                    refine LJ_nil ?_
                    refine QJ_then ?_
                    refine CJ_ret ?_
                    refine QJ_fin (.inl rfl) (μ' := []) (μr := _) (φ' := []) (res_tmp rfl rfl) (List.Perm.refl _) (fun _ h => nomatch h) ?_
                    exact ⟨rfl, rfl, rfl⟩
              · try simp only [decide_eq_true_eq, decide_eq_false_iff_not, Bool.not_eq_true', Bool.not_eq_false', Bool.and_eq_true, Bool.and_eq_false_iff, beq_iff_eq, bne_iff_ne, beq_eq_false_iff_ne, bne_eq_false_iff_eq, ne_eq, decide_eq_decide] at h110
                first | refine LJ_y rfl rfl (YJ_loadN (vs := [_, _]) rfl tyi_53 (by repeat first | exact .head _ | apply List.Mem.tail) rfl rfl) ?_ | refine LJ_y rfl rfl (YJ_loadFactN (vs := [_, _]) rfl tyi_53 (by repeat first | exact .head _ | apply List.Mem.tail) rfl rfl) ?_
                first | refine LJ_y rfl rfl (YJ_loadN (vs := [_, _]) rfl tyi_53 (by repeat first | exact .head _ | apply List.Mem.tail) rfl rfl) ?_ | refine LJ_y rfl rfl (YJ_loadFactN (vs := [_, _]) rfl tyi_53 (by repeat first | exact .head _ | apply List.Mem.tail) rfl rfl) ?_
                refine LJ_y rfl rfl (YJ_eqs rfl rfl (fun _ => eqs_eql_53 ..)) ?_
                refine LJ_y rfl rfl (YJ_pickF rfl rfl) ?_
                refine LJ_y rfl rfl (YJ_assign rfl) ?_
                refine LJ_nil ?_
                refine QJ_then ?_
                refine CJ_seq ?_
                refine CJ_reg ?_
                refine LJ_y rfl rfl (YJ_move rfl) ?_
                refine LJ_y rfl rfl (YJ_not rfl) ?_
                refine LJ_y rfl rfl (YJ_move rfl) ?_
                refine LJ_boolC (fun h117 => ?_) (fun h117 => ?_)
                · try simp only [decide_eq_true_eq, decide_eq_false_iff_not, Bool.not_eq_true', Bool.not_eq_false', Bool.and_eq_true, Bool.and_eq_false_iff, beq_iff_eq, bne_iff_ne, beq_eq_false_iff_ne, bne_eq_false_iff_eq, ne_eq, decide_eq_decide] at h117
                  refine LJ_skip rfl rfl ?_
                  refine LJ_skip rfl rfl ?_
                  refine LJ_skip rfl rfl ?_
                  refine LJ_skip rfl rfl ?_
                  refine LJ_skip rfl rfl ?_
                  refine LJ_skip rfl rfl ?_
                  refine LJ_y rfl rfl (YJ_pickT rfl rfl) ?_
                  refine LJ_y rfl rfl (YJ_move rfl) ?_
                  refine LJ_skip rfl rfl ?_
                  refine LJ_skip rfl rfl ?_
                  refine LJ_skip rfl rfl ?_
                  refine LJ_skip rfl rfl ?_
                  refine LJ_skip rfl rfl ?_
                  refine LJ_skip rfl rfl ?_
                  refine LJ_skip rfl rfl ?_
                  refine LJ_skip rfl rfl ?_
                  refine LJ_skip rfl rfl ?_
                  refine LJ_y rfl rfl (YJ_pickT rfl rfl) ?_
                  refine LJ_y rfl rfl (YJ_assign rfl) ?_
                  refine LJ_nil ?_
                  refine QJ_then ?_
                  refine CJ_ret ?_
                  refine QJ_fin (.inl rfl) (μ' := []) (μr := _) (φ' := []) (res_tmp rfl rfl) (List.Perm.refl _) (fun _ h => nomatch h) ?_
                  exact ⟨rfl, rfl, rfl⟩
                · try simp only [decide_eq_true_eq, decide_eq_false_iff_not, Bool.not_eq_true', Bool.not_eq_false', Bool.and_eq_true, Bool.and_eq_false_iff, beq_iff_eq, bne_iff_ne, beq_eq_false_iff_ne, bne_eq_false_iff_eq, ne_eq, decide_eq_decide] at h117
                  first | refine LJ_y rfl rfl (YJ_loadN (vs := [_, _]) rfl tyi_53 (by repeat first | exact .head _ | apply List.Mem.tail) rfl rfl) ?_ | refine LJ_y rfl rfl (YJ_loadFactN (vs := [_, _]) rfl tyi_53 (by repeat first | exact .head _ | apply List.Mem.tail) rfl rfl) ?_
                  first | refine LJ_y rfl rfl (YJ_loadN (vs := [_, _]) rfl tyi_53 (by repeat first | exact .head _ | apply List.Mem.tail) rfl rfl) ?_ | refine LJ_y rfl rfl (YJ_loadFactN (vs := [_, _]) rfl tyi_53 (by repeat first | exact .head _ | apply List.Mem.tail) rfl rfl) ?_
                  first | refine LJ_y rfl rfl (YJ_loadN (vs := [_, _]) rfl tyi_53 (by repeat first | exact .head _ | apply List.Mem.tail) rfl rfl) ?_ | refine LJ_y rfl rfl (YJ_loadFactN (vs := [_, _]) rfl tyi_53 (by repeat first | exact .head _ | apply List.Mem.tail) rfl rfl) ?_
                  first | refine LJ_y rfl rfl (YJ_loadN (vs := [_, _]) rfl tyi_53 (by repeat first | exact .head _ | apply List.Mem.tail) rfl rfl) ?_ | refine LJ_y rfl rfl (YJ_loadFactN (vs := [_, _]) rfl tyi_53 (by repeat first | exact .head _ | apply List.Mem.tail) rfl rfl) ?_
                  refine LJ_call0 rfl rfl rfl rfl rfl (circle_c ha he hc hp) (AllIn.sub (by first | exact trivial | exact And.intro (by repeat first | exact .head _ | apply List.Mem.tail) trivial | exact And.intro (by repeat first | exact .head _ | apply List.Mem.tail) (And.intro (by repeat first | exact .head _ | apply List.Mem.tail) trivial))) ?_
                  refine LJ_y rfl rfl (YJ_bin rfl rfl rfl) ?_
                  refine LJ_y rfl rfl (YJ_pickF rfl rfl) ?_
                  refine LJ_y rfl rfl (YJ_move rfl) ?_
                  refine LJ_boolC (fun h125 => ?_) (fun h125 => ?_)
                  · try simp only [decide_eq_true_eq, decide_eq_false_iff_not, Bool.not_eq_true', Bool.not_eq_false', Bool.and_eq_true, Bool.and_eq_false_iff, beq_iff_eq, bne_iff_ne, beq_eq_false_iff_ne, bne_eq_false_iff_eq, ne_eq, decide_eq_decide] at h125
                    refine LJ_skip rfl rfl ?_
                    refine LJ_skip rfl rfl ?_
                    refine LJ_skip rfl rfl ?_
                    refine LJ_skip rfl rfl ?_
                    refine LJ_skip rfl rfl ?_
                    refine LJ_skip rfl rfl ?_
                    refine LJ_skip rfl rfl ?_
                    refine LJ_skip rfl rfl ?_
                    refine LJ_skip rfl rfl ?_
                    refine LJ_y rfl rfl (YJ_pickT rfl rfl) ?_
                    refine LJ_y rfl rfl (YJ_assign rfl) ?_
                    refine LJ_nil ?_
                    refine QJ_then ?_
                    refine CJ_ret ?_
                    refine QJ_fin (.inl rfl) (μ' := []) (μr := _) (φ' := []) (res_tmp rfl rfl) (List.Perm.refl _) (fun _ h => nomatch h) ?_
                    exact ⟨rfl, rfl, rfl⟩
                  · try simp only [decide_eq_true_eq, decide_eq_false_iff_not, Bool.not_eq_true', Bool.not_eq_false', Bool.and_eq_true, Bool.and_eq_false_iff, beq_iff_eq, bne_iff_ne, beq_eq_false_iff_ne, bne_eq_false_iff_eq, ne_eq, decide_eq_decide] at h125
                    refine LJ_y rfl rfl (YJ_move rfl) ?_
                    refine LJ_y rfl rfl (YJ_move rfl) ?_
                    refine LJ_boolC (fun h127 => ?_) (fun h127 => ?_)
                    · try simp only [decide_eq_true_eq, decide_eq_false_iff_not, Bool.not_eq_true', Bool.not_eq_false', Bool.and_eq_true, Bool.and_eq_false_iff, beq_iff_eq, bne_iff_ne, beq_eq_false_iff_ne, bne_eq_false_iff_eq, ne_eq, decide_eq_decide] at h127
                      first | refine LJ_y rfl rfl (YJ_loadN (vs := [_, _]) rfl tyi_53 (by repeat first | exact .head _ | apply List.Mem.tail) rfl rfl) ?_ | refine LJ_y rfl rfl (YJ_loadFactN (vs := [_, _]) rfl tyi_53 (by repeat first | exact .head _ | apply List.Mem.tail) rfl rfl) ?_
                      first | refine LJ_y rfl rfl (YJ_loadN (vs := [_, _]) rfl tyi_53 (by repeat first | exact .head _ | apply List.Mem.tail) rfl rfl) ?_ | refine LJ_y rfl rfl (YJ_loadFactN (vs := [_, _]) rfl tyi_53 (by repeat first | exact .head _ | apply List.Mem.tail) rfl rfl) ?_
                      first | refine LJ_y rfl rfl (YJ_loadN (vs := [_, _]) rfl tyi_53 (by repeat first | exact .head _ | apply List.Mem.tail) rfl rfl) ?_ | refine LJ_y rfl rfl (YJ_loadFactN (vs := [_, _]) rfl tyi_53 (by repeat first | exact .head _ | apply List.Mem.tail) rfl rfl) ?_
                      first | refine LJ_y rfl rfl (YJ_loadN (vs := [_, _]) rfl tyi_53 (by repeat first | exact .head _ | apply List.Mem.tail) rfl rfl) ?_ | refine LJ_y rfl rfl (YJ_loadFactN (vs := [_, _]) rfl tyi_53 (by repeat first | exact .head _ | apply List.Mem.tail) rfl rfl) ?_
                      refine LJ_call0 rfl rfl rfl rfl rfl (circle_c ha he hc hp) (AllIn.sub (by first | exact trivial | exact And.intro (by repeat first | exact .head _ | apply List.Mem.tail) trivial | exact And.intro (by repeat first | exact .head _ | apply List.Mem.tail) (And.intro (by repeat first | exact .head _ | apply List.Mem.tail) trivial))) ?_
                      refine LJ_y rfl rfl (YJ_bin rfl rfl rfl) ?_
                      refine LJ_val (v := .bool true) (congrArg Value.bool (decide_eq_true (by rcases hci h117 with h | h; exact h.2; exact absurd h.2 h125))) ?_
                      refine LJ_y rfl rfl (YJ_pickT rfl rfl) ?_
                      refine LJ_y rfl rfl (YJ_pickF rfl rfl) ?_
                      refine LJ_y rfl rfl (YJ_assign rfl) ?_
                      refine LJ_nil ?_
                      refine QJ_then ?_
                      refine CJ_ret ?_
                      refine QJ_fin (.inl rfl) (μ' := []) (μr := _) (φ' := []) (res_tmp rfl rfl) (List.Perm.refl _) (fun _ h => nomatch h) ?_
                      exact ⟨rfl, rfl, rfl⟩
                    · try simp only [decide_eq_true_eq, decide_eq_false_iff_not, Bool.not_eq_true', Bool.not_eq_false', Bool.and_eq_true, Bool.and_eq_false_iff, beq_iff_eq, bne_iff_ne, beq_eq_false_iff_ne, bne_eq_false_iff_eq, ne_eq, decide_eq_decide] at h127
                      exfalso
                      rcases hci h117 with ⟨hc2, -⟩ | ⟨-, h1⟩
                      · omega
                      · exact absurd h1 h125
          · try simp only [decide_eq_true_eq, decide_eq_false_iff_not, Bool.not_eq_true', Bool.not_eq_false', Bool.and_eq_true, Bool.and_eq_false_iff, beq_iff_eq, bne_iff_ne, beq_eq_false_iff_ne, bne_eq_false_iff_eq, ne_eq, decide_eq_decide] at h93
            refine AJ_y 26 rfl (by kernel_rfl) (by kernel_rfl) rfl rfl (YJ_move rfl) ?_
            refine AJ_y 27 rfl (by kernel_rfl) (by kernel_rfl) rfl rfl (YJ_move rfl) ?_
            refine AJ_y 28 rfl (by kernel_rfl) (by kernel_rfl) rfl rfl (YJ_move rfl) ?_
            refine AJ_y 29 rfl (by kernel_rfl) (by kernel_rfl) rfl rfl (YJ_min3 rfl rfl rfl) ?_
            refine AJ_y 30 rfl (by kernel_rfl) (by kernel_rfl) rfl rfl (YJ_bin rfl rfl rfl) ?_
            refine AJ_y 31 rfl (by kernel_rfl) (by kernel_rfl) rfl rfl (YJ_pickF rfl rfl) ?_
            refine AJ_y 32 rfl (by kernel_rfl) (by kernel_rfl) rfl rfl (YJ_neb rfl rfl ubool_4) ?_
            refine AJ_val (v := .bool false) (congrArg Value.bool (by first | (rw [bne_eq_false_iff_eq, decide_eq_true_iff]; rw [hin]; simp only [*, true_or, or_true]) | (rw [bne_eq_false_iff_eq, decide_eq_decide]; rw [hin]; simp only [*, false_or]))) ?_
            refine AJ_y 33 rfl (by kernel_rfl) (by kernel_rfl) rfl rfl (YJ_pickF rfl rfl) ?_
            refine AJ_done (by kernel_rfl) ?_
            refine QJ_then ?_
            refine CJ_condF rfl ?_
            refine CJ_skip ?_
            refine QJ_then ?_
            refine CJ_seq ?_
            refine CJ_reg ?_
            first | refine LJ_y rfl rfl (YJ_loadN (vs := [_, _]) rfl tyi_53 (by repeat first | exact .head _ | apply List.Mem.tail) rfl rfl) ?_ | refine LJ_y rfl rfl (YJ_loadFactN (vs := [_, _]) rfl tyi_53 (by repeat first | exact .head _ | apply List.Mem.tail) rfl rfl) ?_
            first | refine LJ_y rfl rfl (YJ_loadN (vs := [_, _]) rfl tyi_53 (by repeat first | exact .head _ | apply List.Mem.tail) rfl rfl) ?_ | refine LJ_y rfl rfl (YJ_loadFactN (vs := [_, _]) rfl tyi_53 (by repeat first | exact .head _ | apply List.Mem.tail) rfl rfl) ?_
            refine LJ_y rfl rfl (YJ_eqs rfl rfl (fun _ => eqs_eql_53 ..)) ?_
            refine LJ_y rfl rfl (YJ_move rfl) ?_
            refine LJ_boolC (fun h105 => ?_) (fun h105 => ?_)
            · try simp only [decide_eq_true_eq, decide_eq_false_iff_not, Bool.not_eq_true', Bool.not_eq_false', Bool.and_eq_true, Bool.and_eq_false_iff, beq_iff_eq, bne_iff_ne, beq_eq_false_iff_ne, bne_eq_false_iff_eq, ne_eq, decide_eq_decide] at h105
              refine LJ_skip rfl rfl ?_
              refine LJ_skip rfl rfl ?_
              refine LJ_skip rfl rfl ?_
              refine LJ_y rfl rfl (YJ_pickT rfl rfl) ?_
              refine LJ_y rfl rfl (YJ_move rfl) ?_
              refine LJ_skip rfl rfl ?_
              refine LJ_skip rfl rfl ?_
              refine LJ_skip rfl rfl ?_
              refine LJ_y rfl rfl (YJ_pickT rfl rfl) ?_
              refine LJ_y rfl rfl (YJ_assign rfl) ?_
              refine LJ_nil ?_
              refine QJ_then ?_
              refine CJ_seq ?_
              refine CJ_reg ?_
              refine LJ_y rfl rfl (YJ_move rfl) ?_
              refine LJ_y rfl rfl (YJ_not rfl) ?_
              refine LJ_y rfl rfl (YJ_move rfl) ?_
              refine LJ_boolC (fun h117 => ?_) (fun h117 => ?_)
              · try simp only [decide_eq_true_eq, decide_eq_false_iff_not, Bool.not_eq_true', Bool.not_eq_false', Bool.and_eq_true, Bool.and_eq_false_iff, beq_iff_eq, bne_iff_ne, beq_eq_false_iff_ne, bne_eq_false_iff_eq, ne_eq, decide_eq_decide] at h117
                refine LJ_skip rfl rfl ?_
                refine LJ_skip rfl rfl ?_
                refine LJ_skip rfl rfl ?_
                refine LJ_skip rfl rfl ?_
                refine LJ_skip rfl rfl ?_
                refine LJ_skip rfl rfl ?_
                refine LJ_y rfl rfl (YJ_pickT rfl rfl) ?_
                refine LJ_y rfl rfl (YJ_move rfl) ?_
                refine LJ_skip rfl rfl ?_
                refine LJ_skip rfl rfl ?_
                refine LJ_skip rfl rfl ?_
                refine LJ_skip rfl rfl ?_
                refine LJ_skip rfl rfl ?_
                refine LJ_skip rfl rfl ?_
                refine LJ_skip rfl rfl ?_
                refine LJ_skip rfl rfl ?_
                refine LJ_skip rfl rfl ?_
                refine LJ_y rfl rfl (YJ_pickT rfl rfl) ?_
                refine LJ_y rfl rfl (YJ_assign rfl) ?_
                refine LJ_nil ?_
                refine QJ_then ?_
                refine CJ_ret ?_
                refine QJ_fin (.inl rfl) (μ' := []) (μr := _) (φ' := []) (res_tmp rfl rfl) (List.Perm.refl _) (fun _ h => nomatch h) ?_
                exact ⟨rfl, rfl, rfl⟩
              · try simp only [decide_eq_true_eq, decide_eq_false_iff_not, Bool.not_eq_true', Bool.not_eq_false', Bool.and_eq_true, Bool.and_eq_false_iff, beq_iff_eq, bne_iff_ne, beq_eq_false_iff_ne, bne_eq_false_iff_eq, ne_eq, decide_eq_decide] at h117
                first | refine LJ_y rfl rfl (YJ_loadN (vs := [_, _]) rfl tyi_53 (by repeat first | exact .head _ | apply List.Mem.tail) rfl rfl) ?_ | refine LJ_y rfl rfl (YJ_loadFactN (vs := [_, _]) rfl tyi_53 (by repeat first | exact .head _ | apply List.Mem.tail) rfl rfl) ?_
                first | refine LJ_y rfl rfl (YJ_loadN (vs := [_, _]) rfl tyi_53 (by repeat first | exact .head _ | apply List.Mem.tail) rfl rfl) ?_ | refine LJ_y rfl rfl (YJ_loadFactN (vs := [_, _]) rfl tyi_53 (by repeat first | exact .head _ | apply List.Mem.tail) rfl rfl) ?_
                first | refine LJ_y rfl rfl (YJ_loadN (vs := [_, _]) rfl tyi_53 (by repeat first | exact .head _ | apply List.Mem.tail) rfl rfl) ?_ | refine LJ_y rfl rfl (YJ_loadFactN (vs := [_, _]) rfl tyi_53 (by repeat first | exact .head _ | apply List.Mem.tail) rfl rfl) ?_
                first | refine LJ_y rfl rfl (YJ_loadN (vs := [_, _]) rfl tyi_53 (by repeat first | exact .head _ | apply List.Mem.tail) rfl rfl) ?_ | refine LJ_y rfl rfl (YJ_loadFactN (vs := [_, _]) rfl tyi_53 (by repeat first | exact .head _ | apply List.Mem.tail) rfl rfl) ?_
                refine LJ_call0 rfl rfl rfl rfl rfl (circle_c ha he hc hp) (AllIn.sub (by first | exact trivial | exact And.intro (by repeat first | exact .head _ | apply List.Mem.tail) trivial | exact And.intro (by repeat first | exact .head _ | apply List.Mem.tail) (And.intro (by repeat first | exact .head _ | apply List.Mem.tail) trivial))) ?_
                refine LJ_y rfl rfl (YJ_bin rfl rfl rfl) ?_
                refine LJ_y rfl rfl (YJ_pickF rfl rfl) ?_
                refine LJ_y rfl rfl (YJ_move rfl) ?_
                refine LJ_boolC (fun h125 => ?_) (fun h125 => ?_)
                · try simp only [decide_eq_true_eq, decide_eq_false_iff_not, Bool.not_eq_true', Bool.not_eq_false', Bool.and_eq_true, Bool.and_eq_false_iff, beq_iff_eq, bne_iff_ne, beq_eq_false_iff_ne, bne_eq_false_iff_eq, ne_eq, decide_eq_decide] at h125
                  refine LJ_skip rfl rfl ?_
                  refine LJ_skip rfl rfl ?_
                  refine LJ_skip rfl rfl ?_
                  refine LJ_skip rfl rfl ?_
                  refine LJ_skip rfl rfl ?_
                  refine LJ_skip rfl rfl ?_
                  refine LJ_skip rfl rfl ?_
                  refine LJ_skip rfl rfl ?_
                  refine LJ_skip rfl rfl ?_
                  refine LJ_y rfl rfl (YJ_pickT rfl rfl) ?_
                  refine LJ_y rfl rfl (YJ_assign rfl) ?_
                  refine LJ_nil ?_
                  refine QJ_then ?_
                  refine CJ_ret ?_
                  refine QJ_fin (.inl rfl) (μ' := []) (μr := _) (φ' := []) (res_tmp rfl rfl) (List.Perm.refl _) (fun _ h => nomatch h) ?_
                  exact ⟨rfl, rfl, rfl⟩
                · try simp only [decide_eq_true_eq, decide_eq_false_iff_not, Bool.not_eq_true', Bool.not_eq_false', Bool.and_eq_true, Bool.and_eq_false_iff, beq_iff_eq, bne_iff_ne, beq_eq_false_iff_ne, bne_eq_false_iff_eq, ne_eq, decide_eq_decide] at h125
                  refine LJ_y rfl rfl (YJ_move rfl) ?_
                  refine LJ_y rfl rfl (YJ_move rfl) ?_
                  first | refine LJ_y rfl rfl (YJ_loadN (vs := [_, _]) rfl tyi_53 (by repeat first | exact .head _ | apply List.Mem.tail) rfl rfl) ?_ | refine LJ_y rfl rfl (YJ_loadFactN (vs := [_, _]) rfl tyi_53 (by repeat first | exact .head _ | apply List.Mem.tail) rfl rfl) ?_
                  first | refine LJ_y rfl rfl (YJ_loadN (vs := [_, _]) rfl tyi_53 (by repeat first | exact .head _ | apply List.Mem.tail) rfl rfl) ?_ | refine LJ_y rfl rfl (YJ_loadFactN (vs := [_, _]) rfl tyi_53 (by repeat first | exact .head _ | apply List.Mem.tail) rfl rfl) ?_
                  first | refine LJ_y rfl rfl (YJ_loadN (vs := [_, _]) rfl tyi_53 (by repeat first | exact .head _ | apply List.Mem.tail) rfl rfl) ?_ | refine LJ_y rfl rfl (YJ_loadFactN (vs := [_, _]) rfl tyi_53 (by repeat first | exact .head _ | apply List.Mem.tail) rfl rfl) ?_
                  first | refine LJ_y rfl rfl (YJ_loadN (vs := [_, _]) rfl tyi_53 (by repeat first | exact .head _ | apply List.Mem.tail) rfl rfl) ?_ | refine LJ_y rfl rfl (YJ_loadFactN (vs := [_, _]) rfl tyi_53 (by repeat first | exact .head _ | apply List.Mem.tail) rfl rfl) ?_
                  refine LJ_call0 rfl rfl rfl rfl rfl (circle_c ha he hc hp) (AllIn.sub (by first | exact trivial | exact And.intro (by repeat first | exact .head _ | apply List.Mem.tail) trivial | exact And.intro (by repeat first | exact .head _ | apply List.Mem.tail) (And.intro (by repeat first | exact .head _ | apply List.Mem.tail) trivial))) ?_
                  refine LJ_y rfl rfl (YJ_bin rfl rfl rfl) ?_
                  refine LJ_val (v := .bool true) (congrArg Value.bool (decide_eq_true (by rcases hci h117 with h | h; exact h.2; exact absurd h.2 h125))) ?_
                  refine LJ_y rfl rfl (YJ_pickT rfl rfl) ?_
                  refine LJ_y rfl rfl (YJ_pickF rfl rfl) ?_
                  refine LJ_y rfl rfl (YJ_assign rfl) ?_
                  refine LJ_nil ?_
                  refine QJ_then ?_
                  refine CJ_ret ?_
                  refine QJ_fin (.inl rfl) (μ' := []) (μr := _) (φ' := []) (res_tmp rfl rfl) (List.Perm.refl _) (fun _ h => nomatch h) ?_
                  exact ⟨rfl, rfl, rfl⟩
            · try simp only [decide_eq_true_eq, decide_eq_false_iff_not, Bool.not_eq_true', Bool.not_eq_false', Bool.and_eq_true, Bool.and_eq_false_iff, beq_iff_eq, bne_iff_ne, beq_eq_false_iff_ne, bne_eq_false_iff_eq, ne_eq, decide_eq_decide] at h105
              first | refine LJ_y rfl rfl (YJ_loadN (vs := [_, _]) rfl tyi_53 (by repeat first | exact .head _ | apply List.Mem.tail) rfl rfl) ?_ | refine LJ_y rfl rfl (YJ_loadFactN (vs := [_, _]) rfl tyi_53 (by repeat first | exact .head _ | apply List.Mem.tail) rfl rfl) ?_
              first | refine LJ_y rfl rfl (YJ_loadN (vs := [_, _]) rfl tyi_53 (by repeat first | exact .head _ | apply List.Mem.tail) rfl rfl) ?_ | refine LJ_y rfl rfl (YJ_loadFactN (vs := [_, _]) rfl tyi_53 (by repeat first | exact .head _ | apply List.Mem.tail) rfl rfl) ?_
              refine LJ_y rfl rfl (YJ_eqs rfl rfl (fun _ => eqs_eql_53 ..)) ?_
              refine LJ_y rfl rfl (YJ_pickF rfl rfl) ?_
              refine LJ_y rfl rfl (YJ_move rfl) ?_
              refine LJ_boolC (fun h110 => ?_) (fun h110 => ?_)
              · try simp only [decide_eq_true_eq, decide_eq_false_iff_not, Bool.not_eq_true', Bool.not_eq_false', Bool.and_eq_true, Bool.and_eq_false_iff, beq_iff_eq, bne_iff_ne, beq_eq_false_iff_ne, bne_eq_false_iff_eq, ne_eq, decide_eq_decide] at h110
                refine LJ_skip rfl rfl ?_
                refine LJ_skip rfl rfl ?_
                refine LJ_skip rfl rfl ?_
                refine LJ_y rfl rfl (YJ_pickT rfl rfl) ?_
                refine LJ_y rfl rfl (YJ_assign rfl) ?_
                refine LJ_nil ?_
                refine QJ_then ?_
                refine CJ_seq ?_
                refine CJ_reg ?_
                refine LJ_y rfl rfl (YJ_move rfl) ?_
                refine LJ_y rfl rfl (YJ_not rfl) ?_
                refine LJ_y rfl rfl (YJ_move rfl) ?_
                refine LJ_boolC (fun h117 => ?_) (fun h117 => ?_)
                · try simp only [decide_eq_true_eq, decide_eq_false_iff_not, Bool.not_eq_true', Bool.not_eq_false', Bool.and_eq_true, Bool.and_eq_false_iff, beq_iff_eq, bne_iff_ne, beq_eq_false_iff_ne, bne_eq_false_iff_eq, ne_eq, decide_eq_decide] at h117
                  refine LJ_skip rfl rfl ?_
                  refine LJ_skip rfl rfl ?_
                  refine LJ_skip rfl rfl ?_
                  refine LJ_skip rfl rfl ?_
                  refine LJ_skip rfl rfl ?_
                  refine LJ_skip rfl rfl ?_
                  refine LJ_y rfl rfl (YJ_pickT rfl rfl) ?_
                  refine LJ_y rfl rfl (YJ_move rfl) ?_
                  refine LJ_skip rfl rfl ?_
                  refine LJ_skip rfl rfl ?_
                  refine LJ_skip rfl rfl ?_
                  refine LJ_skip rfl rfl ?_
                  refine LJ_skip rfl rfl ?_
                  refine LJ_skip rfl rfl ?_
                  refine LJ_skip rfl rfl ?_
                  refine LJ_skip rfl rfl ?_
                  refine LJ_skip rfl rfl ?_
                  refine LJ_y rfl rfl (YJ_pickT rfl rfl) ?_
                  refine LJ_y rfl rfl (YJ_assign rfl) ?_
                  refine LJ_nil ?_
                  refine QJ_then ?_
                  refine CJ_ret ?_
                  refine QJ_fin (.inl rfl) (μ' := []) (μr := _) (φ' := []) (res_tmp rfl rfl) (List.Perm.refl _) (fun _ h => nomatch h) ?_
                  exact ⟨rfl, rfl, rfl⟩
                · try simp only [decide_eq_true_eq, decide_eq_false_iff_not, Bool.not_eq_true', Bool.not_eq_false', Bool.and_eq_true, Bool.and_eq_false_iff, beq_iff_eq, bne_iff_ne, beq_eq_false_iff_ne, bne_eq_false_iff_eq, ne_eq, decide_eq_decide] at h117
                  first | refine LJ_y rfl rfl (YJ_loadN (vs := [_, _]) rfl tyi_53 (by repeat first | exact .head _ | apply List.Mem.tail) rfl rfl) ?_ | refine LJ_y rfl rfl (YJ_loadFactN (vs := [_, _]) rfl tyi_53 (by repeat first | exact .head _ | apply List.Mem.tail) rfl rfl) ?_
                  first | refine LJ_y rfl rfl (YJ_loadN (vs := [_, _]) rfl tyi_53 (by repeat first | exact .head _ | apply List.Mem.tail) rfl rfl) ?_ | refine LJ_y rfl rfl (YJ_loadFactN (vs := [_, _]) rfl tyi_53 (by repeat first | exact .head _ | apply List.Mem.tail) rfl rfl) ?_
                  first | refine LJ_y rfl rfl (YJ_loadN (vs := [_, _]) rfl tyi_53 (by repeat first | exact .head _ | apply List.Mem.tail) rfl rfl) ?_ | refine LJ_y rfl rfl (YJ_loadFactN (vs := [_, _]) rfl tyi_53 (by repeat first | exact .head _ | apply List.Mem.tail) rfl rfl) ?_
                  first | refine LJ_y rfl rfl (YJ_loadN (vs := [_, _]) rfl tyi_53 (by repeat first | exact .head _ | apply List.Mem.tail) rfl rfl) ?_ | refine LJ_y rfl rfl (YJ_loadFactN (vs := [_, _]) rfl tyi_53 (by repeat first | exact .head _ | apply List.Mem.tail) rfl rfl) ?_
                  refine LJ_call0 rfl rfl rfl rfl rfl (circle_c ha he hc hp) (AllIn.sub (by first | exact trivial | exact And.intro (by repeat first | exact .head _ | apply List.Mem.tail) trivial | exact And.intro (by repeat first | exact .head _ | apply List.Mem.tail) (And.intro (by repeat first | exact .head _ | apply List.Mem.tail) trivial))) ?_
                  refine LJ_y rfl rfl (YJ_bin rfl rfl rfl) ?_
                  refine LJ_y rfl rfl (YJ_pickF rfl rfl) ?_
                  refine LJ_y rfl rfl (YJ_move rfl) ?_
                  refine LJ_boolC (fun h125 => ?_) (fun h125 => ?_)
                  · try simp only [decide_eq_true_eq, decide_eq_false_iff_not, Bool.not_eq_true', Bool.not_eq_false', Bool.and_eq_true, Bool.and_eq_false_iff, beq_iff_eq, bne_iff_ne, beq_eq_false_iff_ne, bne_eq_false_iff_eq, ne_eq, decide_eq_decide] at h125
                    refine LJ_skip rfl rfl ?_
                    refine LJ_skip rfl rfl ?_
                    refine LJ_skip rfl rfl ?_
                    refine LJ_skip rfl rfl ?_
                    refine LJ_skip rfl rfl ?_
                    refine LJ_skip rfl rfl ?_
                    refine LJ_skip rfl rfl ?_
                    refine LJ_skip rfl rfl ?_
                    refine LJ_skip rfl rfl ?_
                    refine LJ_y rfl rfl (YJ_pickT rfl rfl) ?_
                    refine LJ_y rfl rfl (YJ_assign rfl) ?_
                    refine LJ_nil ?_
                    refine QJ_then ?_
                    refine CJ_ret ?_
                    refine QJ_fin (.inl rfl) (μ' := []) (μr := _) (φ' := []) (res_tmp rfl rfl) (List.Perm.refl _) (fun _ h => nomatch h) ?_
                    exact ⟨rfl, rfl, rfl⟩
                  · try simp only [decide_eq_true_eq, decide_eq_false_iff_not, Bool.not_eq_true', Bool.not_eq_false', Bool.and_eq_true, Bool.and_eq_false_iff, beq_iff_eq, bne_iff_ne, beq_eq_false_iff_ne, bne_eq_false_iff_eq, ne_eq, decide_eq_decide] at h125
                    refine LJ_y rfl rfl (YJ_move rfl) ?_
                    refine LJ_y rfl rfl (YJ_move rfl) ?_
                    first | refine LJ_y rfl rfl (YJ_loadN (vs := [_, _]) rfl tyi_53 (by repeat first | exact .head _ | apply List.Mem.tail) rfl rfl) ?_ | refine LJ_y rfl rfl (YJ_loadFactN (vs := [_, _]) rfl tyi_53 (by repeat first | exact .head _ | apply List.Mem.tail) rfl rfl) ?_
                    first | refine LJ_y rfl rfl (YJ_loadN (vs := [_, _]) rfl tyi_53 (by repeat first | exact .head _ | apply List.Mem.tail) rfl rfl) ?_ | refine LJ_y rfl rfl (YJ_loadFactN (vs := [_, _]) rfl tyi_53 (by repeat first | exact .head _ | apply List.Mem.tail) rfl rfl) ?_
                    first | refine LJ_y rfl rfl (YJ_loadN (vs := [_, _]) rfl tyi_53 (by repeat first | exact .head _ | apply List.Mem.tail) rfl rfl) ?_ | refine LJ_y rfl rfl (YJ_loadFactN (vs := [_, _]) rfl tyi_53 (by repeat first | exact .head _ | apply List.Mem.tail) rfl rfl) ?_
                    first | refine LJ_y rfl rfl (YJ_loadN (vs := [_, _]) rfl tyi_53 (by repeat first | exact .head _ | apply List.Mem.tail) rfl rfl) ?_ | refine LJ_y rfl rfl (YJ_loadFactN (vs := [_, _]) rfl tyi_53 (by repeat first | exact .head _ | apply List.Mem.tail) rfl rfl) ?_
                    refine LJ_call0 rfl rfl rfl rfl rfl (circle_c ha he hc hp) (AllIn.sub (by first | exact trivial | exact And.intro (by repeat first | exact .head _ | apply List.Mem.tail) trivial | exact And.intro (by repeat first | exact .head _ | apply List.Mem.tail) (And.intro (by repeat first | exact .head _ | apply List.Mem.tail) trivial))) ?_
                    refine LJ_y rfl rfl (YJ_bin rfl rfl rfl) ?_
                    refine LJ_val (v := .bool true) (congrArg Value.bool (decide_eq_true (by rcases hci h117 with h | h; exact h.2; exact absurd h.2 h125))) ?_
                    refine LJ_y rfl rfl (YJ_pickT rfl rfl) ?_
                    refine LJ_y rfl rfl (YJ_pickF rfl rfl) ?_
                    refine LJ_y rfl rfl (YJ_assign rfl) ?_
                    refine LJ_nil ?_
                    refine QJ_then ?_
                    refine CJ_ret ?_
                    refine QJ_fin (.inl rfl) (μ' := []) (μr := _) (φ' := []) (res_tmp rfl rfl) (List.Perm.refl _) (fun _ h => nomatch h) ?_
                    exact ⟨rfl, rfl, rfl⟩
              · try simp only [decide_eq_true_eq, decide_eq_false_iff_not, Bool.not_eq_true', Bool.not_eq_false', Bool.and_eq_true, Bool.and_eq_false_iff, beq_iff_eq, bne_iff_ne, beq_eq_false_iff_ne, bne_eq_false_iff_eq, ne_eq, decide_eq_decide] at h110
                first | refine LJ_y rfl rfl (YJ_loadN (vs := [_, _]) rfl tyi_53 (by repeat first | exact .head _ | apply List.Mem.tail) rfl rfl) ?_ | refine LJ_y rfl rfl (YJ_loadFactN (vs := [_, _]) rfl tyi_53 (by repeat first | exact .head _ | apply List.Mem.tail) rfl rfl) ?_
                first | refine LJ_y rfl rfl (YJ_loadN (vs := [_, _]) rfl tyi_53 (by repeat first | exact .head _ | apply List.Mem.tail) rfl rfl) ?_ | refine LJ_y rfl rfl (YJ_loadFactN (vs := [_, _]) rfl tyi_53 (by repeat first | exact .head _ | apply List.Mem.tail) rfl rfl) ?_
                refine LJ_y rfl rfl (YJ_eqs rfl rfl (fun _ => eqs_eql_53 ..)) ?_
                refine LJ_y rfl rfl (YJ_pickF rfl rfl) ?_
                refine LJ_y rfl rfl (YJ_assign rfl) ?_
                refine LJ_nil ?_
                refine QJ_then ?_
                refine CJ_seq ?_
                refine CJ_reg ?_
                refine LJ_y rfl rfl (YJ_move rfl) ?_
                refine LJ_y rfl rfl (YJ_not rfl) ?_
                refine LJ_y rfl rfl (YJ_move rfl) ?_
                refine LJ_boolC (fun h117 => ?_) (fun h117 => ?_)
                · try simp only [decide_eq_true_eq, decide_eq_false_iff_not, Bool.not_eq_true', Bool.not_eq_false', Bool.and_eq_true, Bool.and_eq_false_iff, beq_iff_eq, bne_iff_ne, beq_eq_false_iff_ne, bne_eq_false_iff_eq, ne_eq, decide_eq_decide] at h117
                  refine LJ_skip rfl rfl ?_
                  refine LJ_skip rfl rfl ?_
                  refine LJ_skip rfl rfl ?_
                  refine LJ_skip rfl rfl ?_
                  refine LJ_skip rfl rfl ?_
                  refine LJ_skip rfl rfl ?_
                  refine LJ_y rfl rfl (YJ_pickT rfl rfl) ?_
                  refine LJ_y rfl rfl (YJ_move rfl) ?_
                  refine LJ_skip rfl rfl ?_
                  refine LJ_skip rfl rfl ?_
                  refine LJ_skip rfl rfl ?_
                  refine LJ_skip rfl rfl ?_
                  refine LJ_skip rfl rfl ?_
                  refine LJ_skip rfl rfl ?_
                  refine LJ_skip rfl rfl ?_
                  refine LJ_skip rfl rfl ?_
                  refine LJ_skip rfl rfl ?_
                  refine LJ_y rfl rfl (YJ_pickT rfl rfl) ?_
                  refine LJ_y rfl rfl (YJ_assign rfl) ?_
                  refine LJ_nil ?_
                  refine QJ_then ?_
                  refine CJ_ret ?_
                  refine QJ_fin (.inl rfl) (μ' := []) (μr := _) (φ' := []) (res_tmp rfl rfl) (List.Perm.refl _) (fun _ h => nomatch h) ?_
                  exact ⟨rfl, rfl, rfl⟩
                · try simp only [decide_eq_true_eq, decide_eq_false_iff_not, Bool.not_eq_true', Bool.not_eq_false', Bool.and_eq_true, Bool.and_eq_false_iff, beq_iff_eq, bne_iff_ne, beq_eq_false_iff_ne, bne_eq_false_iff_eq, ne_eq, decide_eq_decide] at h117
                  first | refine LJ_y rfl rfl (YJ_loadN (vs := [_, _]) rfl tyi_53 (by repeat first | exact .head _ | apply List.Mem.tail) rfl rfl) ?_ | refine LJ_y rfl rfl (YJ_loadFactN (vs := [_, _]) rfl tyi_53 (by repeat first | exact .head _ | apply List.Mem.tail) rfl rfl) ?_
                  first | refine LJ_y rfl rfl (YJ_loadN (vs := [_, _]) rfl tyi_53 (by repeat first | exact .head _ | apply List.Mem.tail) rfl rfl) ?_ | refine LJ_y rfl rfl (YJ_loadFactN (vs := [_, _]) rfl tyi_53 (by repeat first | exact .head _ | apply List.Mem.tail) rfl rfl) ?_
                  first | refine LJ_y rfl rfl (YJ_loadN (vs := [_, _]) rfl tyi_53 (by repeat first | exact .head _ | apply List.Mem.tail) rfl rfl) ?_ | refine LJ_y rfl rfl (YJ_loadFactN (vs := [_, _]) rfl tyi_53 (by repeat first | exact .head _ | apply List.Mem.tail) rfl rfl) ?_
                  first | refine LJ_y rfl rfl (YJ_loadN (vs := [_, _]) rfl tyi_53 (by repeat first | exact .head _ | apply List.Mem.tail) rfl rfl) ?_ | refine LJ_y rfl rfl (YJ_loadFactN (vs := [_, _]) rfl tyi_53 (by repeat first | exact .head _ | apply List.Mem.tail) rfl rfl) ?_
                  refine LJ_call0 rfl rfl rfl rfl rfl (circle_c ha he hc hp) (AllIn.sub (by first | exact trivial | exact And.intro (by repeat first | exact .head _ | apply List.Mem.tail) trivial | exact And.intro (by repeat first | exact .head _ | apply List.Mem.tail) (And.intro (by repeat first | exact .head _ | apply List.Mem.tail) trivial))) ?_
                  refine LJ_y rfl rfl (YJ_bin rfl rfl rfl) ?_
                  refine LJ_y rfl rfl (YJ_pickF rfl rfl) ?_
                  refine LJ_y rfl rfl (YJ_move rfl) ?_
                  refine LJ_boolC (fun h125 => ?_) (fun h125 => ?_)
                  · try simp only [decide_eq_true_eq, decide_eq_false_iff_not, Bool.not_eq_true', Bool.not_eq_false', Bool.and_eq_true, Bool.and_eq_false_iff, beq_iff_eq, bne_iff_ne, beq_eq_false_iff_ne, bne_eq_false_iff_eq, ne_eq, decide_eq_decide] at h125
                    refine LJ_skip rfl rfl ?_
                    refine LJ_skip rfl rfl ?_
                    refine LJ_skip rfl rfl ?_
                    refine LJ_skip rfl rfl ?_
                    refine LJ_skip rfl rfl ?_
                    refine LJ_skip rfl rfl ?_
                    refine LJ_skip rfl rfl ?_
                    refine LJ_skip rfl rfl ?_
                    refine LJ_skip rfl rfl ?_
                    refine LJ_y rfl rfl (YJ_pickT rfl rfl) ?_
                    refine LJ_y rfl rfl (YJ_assign rfl) ?_
                    refine LJ_nil ?_
                    refine QJ_then ?_
                    refine CJ_ret ?_
                    refine QJ_fin (.inl rfl) (μ' := []) (μr := _) (φ' := []) (res_tmp rfl rfl) (List.Perm.refl _) (fun _ h => nomatch h) ?_
                    exact ⟨rfl, rfl, rfl⟩
                  · try simp only [decide_eq_true_eq, decide_eq_false_iff_not, Bool.not_eq_true', Bool.not_eq_false', Bool.and_eq_true, Bool.and_eq_false_iff, beq_iff_eq, bne_iff_ne, beq_eq_false_iff_ne, bne_eq_false_iff_eq, ne_eq, decide_eq_decide] at h125
                    refine LJ_y rfl rfl (YJ_move rfl) ?_
                    refine LJ_y rfl rfl (YJ_move rfl) ?_
                    refine LJ_boolC (fun h127 => ?_) (fun h127 => ?_)
                    · try simp only [decide_eq_true_eq, decide_eq_false_iff_not, Bool.not_eq_true', Bool.not_eq_false', Bool.and_eq_true, Bool.and_eq_false_iff, beq_iff_eq, bne_iff_ne, beq_eq_false_iff_ne, bne_eq_false_iff_eq, ne_eq, decide_eq_decide] at h127
                      first | refine LJ_y rfl rfl (YJ_loadN (vs := [_, _]) rfl tyi_53 (by repeat first | exact .head _ | apply List.Mem.tail) rfl rfl) ?_ | refine LJ_y rfl rfl (YJ_loadFactN (vs := [_, _]) rfl tyi_53 (by repeat first | exact .head _ | apply List.Mem.tail) rfl rfl) ?_
                      first | refine LJ_y rfl rfl (YJ_loadN (vs := [_, _]) rfl tyi_53 (by repeat first | exact .head _ | apply List.Mem.tail) rfl rfl) ?_ | refine LJ_y rfl rfl (YJ_loadFactN (vs := [_, _]) rfl tyi_53 (by repeat first | exact .head _ | apply List.Mem.tail) rfl rfl) ?_
                      first | refine LJ_y rfl rfl (YJ_loadN (vs := [_, _]) rfl tyi_53 (by repeat first | exact .head _ | apply List.Mem.tail) rfl rfl) ?_ | refine LJ_y rfl rfl (YJ_loadFactN (vs := [_, _]) rfl tyi_53 (by repeat first | exact .head _ | apply List.Mem.tail) rfl rfl) ?_
                      first | refine LJ_y rfl rfl (YJ_loadN (vs := [_, _]) rfl tyi_53 (by repeat first | exact .head _ | apply List.Mem.tail) rfl rfl) ?_ | refine LJ_y rfl rfl (YJ_loadFactN (vs := [_, _]) rfl tyi_53 (by repeat first | exact .head _ | apply List.Mem.tail) rfl rfl) ?_
                      refine LJ_call0 rfl rfl rfl rfl rfl (circle_c ha he hc hp) (AllIn.sub (by first | exact trivial | exact And.intro (by repeat first | exact .head _ | apply List.Mem.tail) trivial | exact And.intro (by repeat first | exact .head _ | apply List.Mem.tail) (And.intro (by repeat first | exact .head _ | apply List.Mem.tail) trivial))) ?_
                      refine LJ_y rfl rfl (YJ_bin rfl rfl rfl) ?_
                      refine LJ_val (v := .bool true) (congrArg Value.bool (decide_eq_true (by rcases hci h117 with h | h; exact h.2; exact absurd h.2 h125))) ?_
                      refine LJ_y rfl rfl (YJ_pickT rfl rfl) ?_
                      refine LJ_y rfl rfl (YJ_pickF rfl rfl) ?_
                      refine LJ_y rfl rfl (YJ_assign rfl) ?_
                      refine LJ_nil ?_
                      refine QJ_then ?_
                      refine CJ_ret ?_
                      refine QJ_fin (.inl rfl) (μ' := []) (μr := _) (φ' := []) (res_tmp rfl rfl) (List.Perm.refl _) (fun _ h => nomatch h) ?_
                      exact ⟨rfl, rfl, rfl⟩
                    · try simp only [decide_eq_true_eq, decide_eq_false_iff_not, Bool.not_eq_true', Bool.not_eq_false', Bool.and_eq_true, Bool.and_eq_false_iff, beq_iff_eq, bne_iff_ne, beq_eq_false_iff_ne, bne_eq_false_iff_eq, ne_eq, decide_eq_decide] at h127
                      exfalso
                      rcases hci h117 with ⟨hc2, -⟩ | ⟨-, h1⟩
                      · omega
                      · exact absurd h1 h125

end Go.Proofs.Ytggbdfnoehienaa
