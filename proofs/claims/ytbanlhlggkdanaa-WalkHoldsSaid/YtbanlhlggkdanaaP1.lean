/- The walks of the functions of pred, and of the small helpers of its statements: each as what it does to whole numbers. -/
import Derived.Test.YtbanlhlggkdanaaL3
import Derived.Test.YtbanlhlggkdanaaSli
set_option linter.unusedSimpArgs false
set_option linter.unusedVariables false
namespace Go.Proofs.Ytbanlhlggkdanaa
open Go.RowKit

theorem ent_17 : Enter Try.prog 17 = true := by kernel_rfl
theorem zer_23 : zer Try.prog 23 = some (.agg #[.int .i64 0, .int .i64 0]) := by kernel_rfl
theorem fld_23_0 : fld Try.prog 23 0 = some 0 := by kernel_rfl
theorem fld_23_1 : fld Try.prog 23 1 = some 1 := by kernel_rfl
theorem lay_23 : lay1 Try.prog 23 = some [.int .i64 0, .int .i64 0] := by kernel_rfl
theorem tyi_23 : tyi Try.prog 23 = some (true, 2) := by kernel_rfl
theorem ent_52 : Enter Try.prog 52 = true := by kernel_rfl
theorem ent_20 : Enter Try.prog 20 = true := by kernel_rfl
theorem ent_47 : Enter Try.prog 47 = true := by kernel_rfl


/-- a coordinate that may be -/
def Tm (x : Int) : Prop := -2147483648 ≤ x ∧ x ≤ 2147483648
/-- a point that may be -/
def P2 (x y : Int) : Prop := Tm x ∧ Tm y
def tm (x : Int) : Int := min (max x (-2147483648)) 2147483648
theorem tm_ok (x : Int) : Tm (tm x) := by unfold Tm tm; omega
theorem tm_p (x y : Int) : P2 (tm x) (tm y) := ⟨tm_ok x, tm_ok y⟩
abbrev ptv (x y : Int) : Value := .agg #[.int .i64 x, .int .i64 y]
/-- twice the area of three points -/
def A2 (a1 a2 e1 e2 c1 c2 : Int) : Int := det (e1 - a1) (e2 - a2) (c1 - a1) (c2 - a2)
theorem Tm.d {x y : Int} (h : Tm x) (h' : Tm y) : T62 (x - y) := by unfold Tm at h h'; unfold T62; omega
theorem Tm.i {x y : Int} (h : Tm x) (h' : Tm y) : -9223372036854775808 ≤ x - y ∧ x - y ≤ 9223372036854775807 := by unfold Tm at h h'; omega
theorem A2_r {a1 a2 e1 e2 c1 c2 : Int} (ha : P2 a1 a2) (hb : P2 e1 e2) (hc : P2 c1 c2) : R128 (A2 a1 a2 e1 e2 c1 c2) := det_r (hb.1.d ha.1) (hb.2.d ha.2) (hc.1.d ha.1) (hc.2.d ha.2)
theorem RetW.of {n m : Int} (h : n = m) {v : Value} {μ φ : List Res} (hr : RetW n v μ φ) : RetW m v μ φ := by subst h; exact hr


set_option maxRecDepth 100000 in
set_option maxHeartbeats 1000000 in
theorem tame_c {x y : Int} : Tri Try.prog 17 [ptv x y] [] [] (Ret0 (ptv (tm x) (tm y))) := by
  refine Tri_of (N := 12) Try.func17 rfl ent_17 rfl rfl ?_
  intro w0 S0 T0
  show CJ _ _ _ [(0, _)] _ _
  refine CJ_seq ?_
  refine CJ_reg ?_
  refine LJ_box (cs := #[_, _]) rfl rfl rfl rfl ?_
  intro b1
  refine LJ_alloc (cs := #[_, _]) rfl rfl zer_23 rfl ?_
  intro b2
  refine LJ_nil ?_
  refine QJ_then ?_
  refine CJ_seq ?_
  refine CJ_reg ?_
  first | refine LJ_y rfl rfl (YJ_fieldOwn rfl fld_23_0 rfl) ?_ | refine LJ_y rfl rfl (YJ_fieldAddr rfl fld_23_0) ?_
  first | refine LJ_y rfl rfl (YJ_loadL rfl tyi_3 (by repeat first | exact .head _ | apply List.Mem.tail) rfl) ?_ | refine LJ_y rfl rfl (YJ_loadFact rfl tyi_3 (by repeat first | exact .head _ | apply List.Mem.tail) rfl) ?_
  refine LJ_y rfl rfl (YJ_max2 rfl rfl) ?_
  refine LJ_y rfl rfl (YJ_min2 rfl rfl) ?_
  first | refine LJ_y rfl rfl (YJ_fieldOwn rfl fld_23_1 rfl) ?_ | refine LJ_y rfl rfl (YJ_fieldAddr rfl fld_23_1) ?_
  first | refine LJ_y rfl rfl (YJ_loadL rfl tyi_3 (by repeat first | exact .head _ | apply List.Mem.tail) rfl) ?_ | refine LJ_y rfl rfl (YJ_loadFact rfl tyi_3 (by repeat first | exact .head _ | apply List.Mem.tail) rfl) ?_
  refine LJ_y rfl rfl (YJ_max2 rfl rfl) ?_
  refine LJ_y rfl rfl (YJ_min2 rfl rfl) ?_
  refine LJ_y rfl rfl (YJ_build1 (cs := [_, _]) lay_23 rfl rfl rfl) ?_
  refine LJ_store (cs' := #[_, _]) (μ' := [_, _]) 0 rfl rfl rfl rfl tyi_23 rfl (Nat.le_of_ble_eq_true rfl) rfl rfl rfl ?_
  refine LJ_nil ?_
  refine QJ_then ?_
  refine CJ_ret ?_
  refine QJ_fin (.inl rfl) (μ' := []) (μr := _) (φ' := []) (res_cell (vs := [_, _]) rfl rfl (by repeat first | exact .head _ | apply List.Mem.tail) tyi_23 rfl) (List.Perm.refl _) (fun _ h => nomatch h) ?_
  exact ⟨rfl, rfl, rfl⟩

set_option maxRecDepth 100000 in
set_option maxHeartbeats 1000000 in
theorem parea2_c {a1 a2 e1 e2 c1 c2 : Int} (ha : P2 a1 a2) (hb : P2 e1 e2) (hc : P2 c1 c2) : Tri Try.prog 52 [ptv a1 a2, ptv e1 e2, ptv c1 c2] [] [] (RetW (A2 a1 a2 e1 e2 c1 c2)) := by
  refine Tri_of (N := 28) Try.func52 rfl ent_52 rfl rfl ?_
  intro w0 S0 T0
  show CJ _ _ _ [(0, _), (1, _), (2, _)] _ _
  refine CJ_seq ?_
  refine CJ_reg ?_
  refine LJ_box (cs := #[_, _]) rfl rfl rfl rfl ?_
  intro b1
  refine LJ_box (cs := #[_, _]) rfl rfl rfl rfl ?_
  intro b2
  refine LJ_box (cs := #[_, _]) rfl rfl rfl rfl ?_
  intro b3
  refine LJ_alloc (cs := #[_, _]) rfl rfl zer_110 rfl ?_
  intro b4
  refine LJ_nil ?_
  refine QJ_then ?_
  refine CJ_seq ?_
  refine CJ_reg ?_
  first | refine LJ_y rfl rfl (YJ_fieldOwn rfl fld_23_0 rfl) ?_ | refine LJ_y rfl rfl (YJ_fieldAddr rfl fld_23_0) ?_
  first | refine LJ_y rfl rfl (YJ_loadL rfl tyi_3 (by repeat first | exact .head _ | apply List.Mem.tail) rfl) ?_ | refine LJ_y rfl rfl (YJ_loadFact rfl tyi_3 (by repeat first | exact .head _ | apply List.Mem.tail) rfl) ?_
  first | refine LJ_y rfl rfl (YJ_fieldOwn rfl fld_23_0 rfl) ?_ | refine LJ_y rfl rfl (YJ_fieldAddr rfl fld_23_0) ?_
  first | refine LJ_y rfl rfl (YJ_loadL rfl tyi_3 (by repeat first | exact .head _ | apply List.Mem.tail) rfl) ?_ | refine LJ_y rfl rfl (YJ_loadFact rfl tyi_3 (by repeat first | exact .head _ | apply List.Mem.tail) rfl) ?_
  refine LJ_y rfl rfl (YJ_bin rfl rfl (iop_sub (hb.1.i ha.1))) ?_
  first | refine LJ_y rfl rfl (YJ_fieldOwn rfl fld_23_1 rfl) ?_ | refine LJ_y rfl rfl (YJ_fieldAddr rfl fld_23_1) ?_
  first | refine LJ_y rfl rfl (YJ_loadL rfl tyi_3 (by repeat first | exact .head _ | apply List.Mem.tail) rfl) ?_ | refine LJ_y rfl rfl (YJ_loadFact rfl tyi_3 (by repeat first | exact .head _ | apply List.Mem.tail) rfl) ?_
  first | refine LJ_y rfl rfl (YJ_fieldOwn rfl fld_23_1 rfl) ?_ | refine LJ_y rfl rfl (YJ_fieldAddr rfl fld_23_1) ?_
  first | refine LJ_y rfl rfl (YJ_loadL rfl tyi_3 (by repeat first | exact .head _ | apply List.Mem.tail) rfl) ?_ | refine LJ_y rfl rfl (YJ_loadFact rfl tyi_3 (by repeat first | exact .head _ | apply List.Mem.tail) rfl) ?_
  refine LJ_y rfl rfl (YJ_bin rfl rfl (iop_sub (hb.2.i ha.2))) ?_
  first | refine LJ_y rfl rfl (YJ_fieldOwn rfl fld_23_0 rfl) ?_ | refine LJ_y rfl rfl (YJ_fieldAddr rfl fld_23_0) ?_
  first | refine LJ_y rfl rfl (YJ_loadL rfl tyi_3 (by repeat first | exact .head _ | apply List.Mem.tail) rfl) ?_ | refine LJ_y rfl rfl (YJ_loadFact rfl tyi_3 (by repeat first | exact .head _ | apply List.Mem.tail) rfl) ?_
  first | refine LJ_y rfl rfl (YJ_fieldOwn rfl fld_23_0 rfl) ?_ | refine LJ_y rfl rfl (YJ_fieldAddr rfl fld_23_0) ?_
  first | refine LJ_y rfl rfl (YJ_loadL rfl tyi_3 (by repeat first | exact .head _ | apply List.Mem.tail) rfl) ?_ | refine LJ_y rfl rfl (YJ_loadFact rfl tyi_3 (by repeat first | exact .head _ | apply List.Mem.tail) rfl) ?_
  refine LJ_y rfl rfl (YJ_bin rfl rfl (iop_sub (hc.1.i ha.1))) ?_
  first | refine LJ_y rfl rfl (YJ_fieldOwn rfl fld_23_1 rfl) ?_ | refine LJ_y rfl rfl (YJ_fieldAddr rfl fld_23_1) ?_
  first | refine LJ_y rfl rfl (YJ_loadL rfl tyi_3 (by repeat first | exact .head _ | apply List.Mem.tail) rfl) ?_ | refine LJ_y rfl rfl (YJ_loadFact rfl tyi_3 (by repeat first | exact .head _ | apply List.Mem.tail) rfl) ?_
  first | refine LJ_y rfl rfl (YJ_fieldOwn rfl fld_23_1 rfl) ?_ | refine LJ_y rfl rfl (YJ_fieldAddr rfl fld_23_1) ?_
  first | refine LJ_y rfl rfl (YJ_loadL rfl tyi_3 (by repeat first | exact .head _ | apply List.Mem.tail) rfl) ?_ | refine LJ_y rfl rfl (YJ_loadFact rfl tyi_3 (by repeat first | exact .head _ | apply List.Mem.tail) rfl) ?_
  refine LJ_y rfl rfl (YJ_bin rfl rfl (iop_sub (hc.2.i ha.2))) ?_
  refine LJ_callX rfl rfl rfl rfl rfl (wdet_c (hb.1.d ha.1).i (hb.2.d ha.2).i (hc.1.d ha.1).i (hc.2.d ha.2).i) (AllIn.sub (by first | exact trivial | exact And.intro (by repeat first | exact .head _ | apply List.Mem.tail) trivial | exact And.intro (by repeat first | exact .head _ | apply List.Mem.tail) (And.intro (by repeat first | exact .head _ | apply List.Mem.tail) trivial))) ?_
  rw [if_pos (show R128 (det (e1 - a1) (e2 - a2) (c1 - a1) (c2 - a2)) from A2_r ha hb hc)]
  rintro ⟨hih, loh⟩ h
  dsimp only [wvP, List.cons_append, List.nil_append] at h ⊢
  refine LJ_store (cs' := #[_, _]) (μ' := [_, _, _, _]) 0 rfl rfl rfl rfl tyi_110 rfl (Nat.le_of_ble_eq_true rfl) rfl rfl rfl ?_
  refine LJ_nil ?_
  refine QJ_then ?_
  refine CJ_ret ?_
  refine QJ_fin (.inl rfl) (μ' := []) (μr := _) (φ' := []) (res_cell (vs := [_, _]) rfl rfl (by repeat first | exact .head _ | apply List.Mem.tail) tyi_110 rfl) (List.Perm.refl _) (fun _ h => nomatch h) ?_
  exact ⟨(hih, loh), h, rfl, rfl, rfl⟩

set_option maxRecDepth 100000 in
set_option maxHeartbeats 1000000 in
theorem orient_c {a1 a2 e1 e2 c1 c2 : Int} (ha : P2 a1 a2) (hb : P2 e1 e2) (hc : P2 c1 c2) : Tri Try.prog 20 [ptv a1 a2, ptv e1 e2, ptv c1 c2] [] [] (Ret0 (.int .i64 (sgn (A2 a1 a2 e1 e2 c1 c2)))) := by
  refine Tri_of (N := 12) Try.func20 rfl ent_20 rfl rfl ?_
  intro w0 S0 T0
  show CJ _ _ _ [(0, _), (1, _), (2, _)] _ _
  refine CJ_seq ?_
  refine CJ_reg ?_
  refine LJ_box (cs := #[_, _]) rfl rfl rfl rfl ?_
  intro b1
  refine LJ_box (cs := #[_, _]) rfl rfl rfl rfl ?_
  intro b2
  refine LJ_box (cs := #[_, _]) rfl rfl rfl rfl ?_
  intro b3
  refine LJ_y rfl rfl (YJ_assign rfl) ?_
  refine LJ_nil ?_
  refine QJ_then ?_
  refine CJ_seq ?_
  refine CJ_reg ?_
  first | refine LJ_y rfl rfl (YJ_loadN (vs := [_, _]) rfl tyi_23 (by repeat first | exact .head _ | apply List.Mem.tail) rfl rfl) ?_ | refine LJ_y rfl rfl (YJ_loadFactN (vs := [_, _]) rfl tyi_23 (by repeat first | exact .head _ | apply List.Mem.tail) rfl rfl) ?_
  first | refine LJ_y rfl rfl (YJ_loadN (vs := [_, _]) rfl tyi_23 (by repeat first | exact .head _ | apply List.Mem.tail) rfl rfl) ?_ | refine LJ_y rfl rfl (YJ_loadFactN (vs := [_, _]) rfl tyi_23 (by repeat first | exact .head _ | apply List.Mem.tail) rfl rfl) ?_
  first | refine LJ_y rfl rfl (YJ_loadN (vs := [_, _]) rfl tyi_23 (by repeat first | exact .head _ | apply List.Mem.tail) rfl rfl) ?_ | refine LJ_y rfl rfl (YJ_loadFactN (vs := [_, _]) rfl tyi_23 (by repeat first | exact .head _ | apply List.Mem.tail) rfl rfl) ?_
  refine LJ_callX rfl rfl rfl rfl rfl (parea2_c ha hb hc) (AllIn.sub (by first | exact trivial | exact And.intro (by repeat first | exact .head _ | apply List.Mem.tail) trivial | exact And.intro (by repeat first | exact .head _ | apply List.Mem.tail) (And.intro (by repeat first | exact .head _ | apply List.Mem.tail) trivial))) ?_
  rintro ⟨hih, loh⟩ h
  dsimp only [wvP, List.cons_append, List.nil_append] at h ⊢
  refine LJ_call0 rfl rfl rfl rfl rfl (wsign_c h (A2_r ha hb hc)) (AllIn.sub (by first | exact trivial | exact And.intro (by repeat first | exact .head _ | apply List.Mem.tail) trivial | exact And.intro (by repeat first | exact .head _ | apply List.Mem.tail) (And.intro (by repeat first | exact .head _ | apply List.Mem.tail) trivial))) ?_
  refine LJ_y rfl rfl (YJ_assign rfl) ?_
  refine LJ_nil ?_
  refine QJ_then ?_
  refine CJ_ret ?_
  refine QJ_fin (.inl rfl) (μ' := []) (μr := _) (φ' := []) (res_tmp rfl rfl) (List.Perm.refl _) (fun _ h => nomatch h) ?_
  exact ⟨rfl, rfl, rfl⟩

set_option maxRecDepth 100000 in
set_option maxHeartbeats 1000000 in
theorem area2_c {a1 a2 e1 e2 c1 c2 : Int} (ha : P2 a1 a2) (hb : P2 e1 e2) (hc : P2 c1 c2) : Tri Try.prog 47 [ptv a1 a2, ptv e1 e2, ptv c1 c2] [] [] (RetN (A2 a1 a2 e1 e2 c1 c2)) := by
  refine Tri_of (N := 12) Try.func47 rfl ent_47 rfl rfl ?_
  intro w0 S0 T0
  show CJ _ _ _ [(0, _), (1, _), (2, _)] _ _
  refine CJ_seq ?_
  refine CJ_reg ?_
  refine LJ_box (cs := #[_, _]) rfl rfl rfl rfl ?_
  intro b1
  refine LJ_box (cs := #[_, _]) rfl rfl rfl rfl ?_
  intro b2
  refine LJ_box (cs := #[_, _]) rfl rfl rfl rfl ?_
  intro b3
  refine LJ_alloc (cs := #[_, _]) rfl rfl zer_100 rfl ?_
  intro b4
  refine LJ_nil ?_
  refine QJ_then ?_
  refine CJ_seq ?_
  refine CJ_reg ?_
  first | refine LJ_y rfl rfl (YJ_loadN (vs := [_, _]) rfl tyi_23 (by repeat first | exact .head _ | apply List.Mem.tail) rfl rfl) ?_ | refine LJ_y rfl rfl (YJ_loadFactN (vs := [_, _]) rfl tyi_23 (by repeat first | exact .head _ | apply List.Mem.tail) rfl rfl) ?_
  first | refine LJ_y rfl rfl (YJ_loadN (vs := [_, _]) rfl tyi_23 (by repeat first | exact .head _ | apply List.Mem.tail) rfl rfl) ?_ | refine LJ_y rfl rfl (YJ_loadFactN (vs := [_, _]) rfl tyi_23 (by repeat first | exact .head _ | apply List.Mem.tail) rfl rfl) ?_
  first | refine LJ_y rfl rfl (YJ_loadN (vs := [_, _]) rfl tyi_23 (by repeat first | exact .head _ | apply List.Mem.tail) rfl rfl) ?_ | refine LJ_y rfl rfl (YJ_loadFactN (vs := [_, _]) rfl tyi_23 (by repeat first | exact .head _ | apply List.Mem.tail) rfl rfl) ?_
  refine LJ_callX rfl rfl rfl rfl rfl (parea2_c ha hb hc) (AllIn.sub (by first | exact trivial | exact And.intro (by repeat first | exact .head _ | apply List.Mem.tail) trivial | exact And.intro (by repeat first | exact .head _ | apply List.Mem.tail) (And.intro (by repeat first | exact .head _ | apply List.Mem.tail) trivial))) ?_
  rintro ⟨hih, loh⟩ h
  dsimp only [wvP, List.cons_append, List.nil_append] at h ⊢
  refine LJ_callX rfl rfl rfl rfl rfl (wnum_c h (A2_r ha hb hc)) (AllIn.sub (by first | exact trivial | exact And.intro (by repeat first | exact .head _ | apply List.Mem.tail) trivial | exact And.intro (by repeat first | exact .head _ | apply List.Mem.tail) (And.intro (by repeat first | exact .head _ | apply List.Mem.tail) trivial))) ?_
  rintro ⟨A1, k1⟩ hcap1
  dsimp only at hcap1
  dsimp only [List.cons_append, List.nil_append]
  refine LJ_store (cs' := #[_, _]) (μ' := [_, _, _, _]) 0 rfl rfl rfl rfl tyi_100 rfl (Nat.le_of_ble_eq_true rfl) rfl rfl rfl ?_
  refine LJ_nil ?_
  refine QJ_then ?_
  refine CJ_ret ?_
  refine QJ_fin (.inl rfl) (μ' := []) (μr := _) (φ' := [numF (A2 a1 a2 e1 e2 c1 c2) A1]) (res_cell (vs := [_, _]) rfl rfl (by repeat first | exact .head _ | apply List.Mem.tail) tyi_100 rfl) (List.Perm.refl _) (AllIn.sub (And.intro (.head _) trivial)) ?_
  exact ⟨(A1, k1), hcap1, rfl, rfl, rfl⟩

end Go.Proofs.Ytbanlhlggkdanaa
