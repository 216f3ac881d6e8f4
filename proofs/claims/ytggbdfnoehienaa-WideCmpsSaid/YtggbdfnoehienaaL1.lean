/- The walk of the statement WideCmps. -/
import Derived.Test.YtggbdfnoehienaaN3
set_option linter.unusedSimpArgs false
set_option linter.unusedVariables false
namespace Go.Proofs.Ytggbdfnoehienaa
open Go.RowKit

theorem ent_3 : Enter Try.prog 3 = true := by kernel_rfl


theorem cmps_eq {ah al bh bl a b : Int} (ha : IsW ah al a) (hb : IsW bh bl b) (ra : R128 a) (rb : R128 b) : (decide (sgn (a - b) = 0) == (decide (ah = bh) && decide (al = bl))) = true := by
  have h := ha.ext ra hb rb
  have h2 := sgn_cases (a - b)
  rw [beq_iff_eq, ← Bool.decide_and, decide_eq_decide, h]
  omega


set_option maxRecDepth 100000 in
set_option maxHeartbeats 1000000 in
theorem cmps_c {ah al bh bl a b : Int} (ha : IsW ah al a) (hb : IsW bh bl b) (ra : R128 a) (rb : R128 b) : Tri Try.prog 3 [.agg #[.int .u64 ah, .int .u64 al], .agg #[.int .u64 bh, .int .u64 bl]] [] [] (Ret0 (.bool true)) := by
  refine Tri_of (N := 37) Try.func3 rfl ent_3 rfl rfl ?_
  intro w0 S0 T0
  show CJ _ _ _ [(0, _), (1, _)] _ _
  refine CJ_seq ?_
  refine CJ_reg ?_
  refine LJ_box (cs := #[_, _]) rfl rfl rfl rfl ?_
  intro b1
  refine LJ_box (cs := #[_, _]) rfl rfl rfl rfl ?_
  intro b2
  refine LJ_y rfl rfl (YJ_assign rfl) ?_
  refine LJ_nil ?_
  refine QJ_then ?_
  refine CJ_seq ?_
  refine CJ_seq ?_
  refine CJ_reg ?_
  refine LJ_call0 rfl rfl rfl rfl rfl fit_c (AllIn.sub (by first | exact trivial | exact And.intro (by repeat first | exact .head _ | apply List.Mem.tail) trivial | exact And.intro (by repeat first | exact .head _ | apply List.Mem.tail) (And.intro (by repeat first | exact .head _ | apply List.Mem.tail) trivial))) ?_
  refine LJ_y rfl rfl (YJ_not rfl) ?_
  refine LJ_nil ?_
  refine QJ_then ?_
  refine CJ_condF rfl ?_
  refine CJ_skip ?_
  refine QJ_then ?_
  refine CJ_seq ?_
  refine CJ_regDA mix (by kernel_rfl) (fun _ _ _ _ _ h => h) _ _ (fun _ h => h) (fun _ h => h) [⟨4, 5, 29, #[.bool false, .slice none 0 0]⟩, ⟨5, 6, 29, #[.bool false, .slice none 0 0]⟩] 6 rfl (And.intro ⟨_, _, _, _, rfl, zer_29, rfl⟩ (And.intro ⟨_, _, _, _, rfl, zer_29, rfl⟩ (trivial))) rfl rfl ?_
  first | refine AA_y 0 rfl (by kernel_rfl) rfl rfl rfl (YJ_loadN (vs := [_, _]) rfl tyi_24 (by repeat first | exact .head _ | apply List.Mem.tail) rfl rfl) ?_ | refine AA_y 0 rfl (by kernel_rfl) rfl rfl rfl (YJ_loadFactN (vs := [_, _]) rfl tyi_24 (by repeat first | exact .head _ | apply List.Mem.tail) rfl rfl) ?_
  first | refine AA_y 2 rfl (by kernel_rfl) rfl rfl rfl (YJ_loadN (vs := [_, _]) rfl tyi_24 (by repeat first | exact .head _ | apply List.Mem.tail) rfl rfl) ?_ | refine AA_y 2 rfl (by kernel_rfl) rfl rfl rfl (YJ_loadFactN (vs := [_, _]) rfl tyi_24 (by repeat first | exact .head _ | apply List.Mem.tail) rfl rfl) ?_
  refine AA_callX 1 rfl (by kernel_rfl) rfl rfl rfl rfl rfl rfl rfl (wnum_c ha ra) (AllIn.sub (by first | exact trivial | exact And.intro (by repeat first | exact .head _ | apply List.Mem.tail) trivial | exact And.intro (by repeat first | exact .head _ | apply List.Mem.tail) (And.intro (by repeat first | exact .head _ | apply List.Mem.tail) trivial))) ?_
  rintro ⟨A1, c1⟩ hcap1
  dsimp only at hcap1
  dsimp only [List.cons_append, List.nil_append]
  refine AA_callX 3 rfl (by kernel_rfl) rfl rfl rfl rfl rfl rfl rfl (wnum_c hb rb) (AllIn.sub (by first | exact trivial | exact And.intro (by repeat first | exact .head _ | apply List.Mem.tail) trivial | exact And.intro (by repeat first | exact .head _ | apply List.Mem.tail) (And.intro (by repeat first | exact .head _ | apply List.Mem.tail) trivial))) ?_
  rintro ⟨A2, c2⟩ hcap2
  dsimp only at hcap2
  dsimp only [List.cons_append, List.nil_append]
  refine AA_end (by kernel_rfl) rfl ?_
  intro bs hbs
  obtain ⟨b3, b4, rfl⟩ := len_2 hbs
  clear hbs
  show AJ _ _ _ _ _ _ _ ((5, .pointer (some ⟨b3, 0, none⟩)) :: (6, .pointer (some ⟨b4, 0, none⟩)) :: _) (cellsR b3 _ _ :: cellsR b4 _ _ :: _) _
  refine AJ_store (cs' := #[_, _]) (μ' := [_, _, _, _]) 6 0 rfl (by kernel_rfl) rfl rfl rfl rfl tyi_29 rfl (Nat.le_of_ble_eq_true rfl) rfl rfl rfl (fun _ => AllIn.sub (And.intro (by repeat first | exact .head _ | apply List.Mem.tail) (And.intro (by repeat first | exact .head _ | apply List.Mem.tail) (trivial)))) ?_
  refine AJ_store (cs' := #[_, _]) (μ' := [_, _, _, _]) 7 1 rfl (by kernel_rfl) rfl rfl rfl rfl tyi_29 rfl (Nat.le_of_ble_eq_true rfl) rfl rfl rfl (fun _ => AllIn.sub (And.intro (by repeat first | exact .head _ | apply List.Mem.tail) (And.intro (by repeat first | exact .head _ | apply List.Mem.tail) (trivial)))) ?_
  refine AJ_done (by kernel_rfl) ?_
  refine QJ_then ?_
  refine CJ_seq ?_
  refine CJ_regD mix (by kernel_rfl) (fun _ _ _ _ _ h => h) _ _ (fun _ h => h) (fun _ h => h) ?_
  first | refine AJ_y 0 rfl (by kernel_rfl) (by kernel_rfl) rfl rfl (YJ_loadN (vs := [_, _]) rfl tyi_24 (by repeat first | exact .head _ | apply List.Mem.tail) rfl rfl) ?_ | refine AJ_y 0 rfl (by kernel_rfl) (by kernel_rfl) rfl rfl (YJ_loadFactN (vs := [_, _]) rfl tyi_24 (by repeat first | exact .head _ | apply List.Mem.tail) rfl rfl) ?_
  first | refine AJ_y 1 rfl (by kernel_rfl) (by kernel_rfl) rfl rfl (YJ_loadN (vs := [_, _]) rfl tyi_24 (by repeat first | exact .head _ | apply List.Mem.tail) rfl rfl) ?_ | refine AJ_y 1 rfl (by kernel_rfl) (by kernel_rfl) rfl rfl (YJ_loadFactN (vs := [_, _]) rfl tyi_24 (by repeat first | exact .head _ | apply List.Mem.tail) rfl rfl) ?_
  first | refine AJ_y 3 rfl (by kernel_rfl) (by kernel_rfl) rfl rfl (YJ_loadN (vs := [_, _]) rfl tyi_29 (by repeat first | exact .head _ | apply List.Mem.tail) rfl rfl) ?_ | refine AJ_y 3 rfl (by kernel_rfl) (by kernel_rfl) rfl rfl (YJ_loadFactN (vs := [_, _]) rfl tyi_29 (by repeat first | exact .head _ | apply List.Mem.tail) rfl rfl) ?_
  first | refine AJ_y 4 rfl (by kernel_rfl) (by kernel_rfl) rfl rfl (YJ_loadN (vs := [_, _]) rfl tyi_29 (by repeat first | exact .head _ | apply List.Mem.tail) rfl rfl) ?_ | refine AJ_y 4 rfl (by kernel_rfl) (by kernel_rfl) rfl rfl (YJ_loadFactN (vs := [_, _]) rfl tyi_29 (by repeat first | exact .head _ | apply List.Mem.tail) rfl rfl) ?_
  refine AJ_call0 2 rfl (by kernel_rfl) rfl rfl rfl rfl rfl (wcmp_c ha hb ra rb) (AllIn.sub (by first | exact trivial | exact And.intro (by repeat first | exact .head _ | apply List.Mem.tail) trivial | exact And.intro (by repeat first | exact .head _ | apply List.Mem.tail) (And.intro (by repeat first | exact .head _ | apply List.Mem.tail) trivial))) ?_
  refine AJ_call0 5 rfl (by kernel_rfl) rfl rfl rfl rfl rfl (ncmp_c (dl_big ra) (dl_big rb) hcap1 hcap2) (AllIn.sub (And.intro (by repeat first | exact .head _ | apply List.Mem.tail) (And.intro (by repeat first | exact .head _ | apply List.Mem.tail) trivial))) ?_
  refine AJ_y 6 rfl (by kernel_rfl) (by kernel_rfl) rfl rfl (YJ_bin rfl rfl rfl) ?_
  refine AJ_y 7 rfl (by kernel_rfl) (by kernel_rfl) rfl rfl (YJ_move rfl) ?_
  refine AJ_bool (c := true) (decide_eq_true rfl) ?_
  first | refine AJ_y 8 rfl (by kernel_rfl) (by kernel_rfl) rfl rfl (YJ_loadN (vs := [_, _]) rfl tyi_24 (by repeat first | exact .head _ | apply List.Mem.tail) rfl rfl) ?_ | refine AJ_y 8 rfl (by kernel_rfl) (by kernel_rfl) rfl rfl (YJ_loadFactN (vs := [_, _]) rfl tyi_24 (by repeat first | exact .head _ | apply List.Mem.tail) rfl rfl) ?_
  first | refine AJ_y 10 rfl (by kernel_rfl) (by kernel_rfl) rfl rfl (YJ_loadN (vs := [_, _]) rfl tyi_29 (by repeat first | exact .head _ | apply List.Mem.tail) rfl rfl) ?_ | refine AJ_y 10 rfl (by kernel_rfl) (by kernel_rfl) rfl rfl (YJ_loadFactN (vs := [_, _]) rfl tyi_29 (by repeat first | exact .head _ | apply List.Mem.tail) rfl rfl) ?_
  refine AJ_call0 9 rfl (by kernel_rfl) rfl rfl rfl rfl rfl (wsign_c ha ra) (AllIn.sub (by first | exact trivial | exact And.intro (by repeat first | exact .head _ | apply List.Mem.tail) trivial | exact And.intro (by repeat first | exact .head _ | apply List.Mem.tail) (And.intro (by repeat first | exact .head _ | apply List.Mem.tail) trivial))) ?_
  refine AJ_call0 11 rfl (by kernel_rfl) rfl rfl rfl rfl rfl (nsign_c (Nat.le_trans (dl_r128 ra) (by decide)) hcap1) (AllIn.sub (And.intro (by repeat first | exact .head _ | apply List.Mem.tail) trivial)) ?_
  refine AJ_y 12 rfl (by kernel_rfl) (by kernel_rfl) rfl rfl (YJ_bin rfl rfl rfl) ?_
  refine AJ_bool (c := true) (decide_eq_true rfl) ?_
  refine AJ_y 13 rfl (by kernel_rfl) (by kernel_rfl) rfl rfl (YJ_pickT rfl rfl) ?_
  refine AJ_y 14 rfl (by kernel_rfl) (by kernel_rfl) rfl rfl (YJ_move rfl) ?_
  first | refine AJ_y 15 rfl (by kernel_rfl) (by kernel_rfl) rfl rfl (YJ_loadN (vs := [_, _]) rfl tyi_24 (by repeat first | exact .head _ | apply List.Mem.tail) rfl rfl) ?_ | refine AJ_y 15 rfl (by kernel_rfl) (by kernel_rfl) rfl rfl (YJ_loadFactN (vs := [_, _]) rfl tyi_24 (by repeat first | exact .head _ | apply List.Mem.tail) rfl rfl) ?_
  first | refine AJ_y 16 rfl (by kernel_rfl) (by kernel_rfl) rfl rfl (YJ_loadN (vs := [_, _]) rfl tyi_24 (by repeat first | exact .head _ | apply List.Mem.tail) rfl rfl) ?_ | refine AJ_y 16 rfl (by kernel_rfl) (by kernel_rfl) rfl rfl (YJ_loadFactN (vs := [_, _]) rfl tyi_24 (by repeat first | exact .head _ | apply List.Mem.tail) rfl rfl) ?_
  first | refine AJ_y 19 rfl (by kernel_rfl) (by kernel_rfl) rfl rfl (YJ_loadN (vs := [_, _]) rfl tyi_24 (by repeat first | exact .head _ | apply List.Mem.tail) rfl rfl) ?_ | refine AJ_y 19 rfl (by kernel_rfl) (by kernel_rfl) rfl rfl (YJ_loadFactN (vs := [_, _]) rfl tyi_24 (by repeat first | exact .head _ | apply List.Mem.tail) rfl rfl) ?_
  first | refine AJ_y 20 rfl (by kernel_rfl) (by kernel_rfl) rfl rfl (YJ_loadN (vs := [_, _]) rfl tyi_24 (by repeat first | exact .head _ | apply List.Mem.tail) rfl rfl) ?_ | refine AJ_y 20 rfl (by kernel_rfl) (by kernel_rfl) rfl rfl (YJ_loadFactN (vs := [_, _]) rfl tyi_24 (by repeat first | exact .head _ | apply List.Mem.tail) rfl rfl) ?_
  refine AJ_y 21 rfl (by kernel_rfl) (by kernel_rfl) rfl rfl (YJ_eqs rfl rfl (fun _ => eqs_eql_24 ..)) ?_
  refine AJ_call0 17 rfl (by kernel_rfl) rfl rfl rfl rfl rfl (wcmp_c ha hb ra rb) (AllIn.sub (by first | exact trivial | exact And.intro (by repeat first | exact .head _ | apply List.Mem.tail) trivial | exact And.intro (by repeat first | exact .head _ | apply List.Mem.tail) (And.intro (by repeat first | exact .head _ | apply List.Mem.tail) trivial))) ?_
  refine AJ_y 18 rfl (by kernel_rfl) (by kernel_rfl) rfl rfl (YJ_bin rfl rfl rfl) ?_
  refine AJ_y 22 rfl (by kernel_rfl) (by kernel_rfl) rfl rfl (YJ_eqb rfl rfl ubool_4) ?_
  refine AJ_val (v := .bool true) (congrArg Value.bool (cmps_eq ha hb ra rb)) ?_
  refine AJ_y 23 rfl (by kernel_rfl) (by kernel_rfl) rfl rfl (YJ_pickT rfl rfl) ?_
  refine AJ_y 24 rfl (by kernel_rfl) (by kernel_rfl) rfl rfl (YJ_assign rfl) ?_
  refine AJ_done (by kernel_rfl) ?_
  refine QJ_then ?_
  refine CJ_ret ?_
  refine QJ_fin (.inl rfl) (μ' := []) (μr := _) (φ' := []) (res_tmp rfl rfl) (List.Perm.refl _) (fun _ h => nomatch h) ?_
  exact ⟨rfl, rfl, rfl⟩

end Go.Proofs.Ytggbdfnoehienaa
