/- The walk of isohyetlaw10.WalkLooks. -/
import Derived.Test.YtbanlhlggkdanaaWe
set_option linter.unusedSimpArgs false
set_option linter.unusedVariables false
namespace Go.Proofs.Ytbanlhlggkdanaa
open Go.RowKit
theorem ent_5 : Enter Try.prog 5 = true := by kernel_rfl
theorem find_zero {pts : List (Int × Int)} {tris : List Tr} {p : Int × Int} {x : Pl} {n : Int} (h : FindOk pts tris p 0 x n) : x = look pts tris p ∧ n = 0 := by
 have h1 := h.lo
 have h2 := h.hi
 have h3 : n = 0 := by omega
 exact ⟨h.any.resolve_right (fun q => absurd q.1 (by omega)), h3⟩
theorem eqs_neq_same (a b c d : Int) (x y : Operand) (w : World) :
  (do eqGuard .neq 42 x y (.agg #[.int .i64 a, .int .i64 b, .int .i64 c, .int .i64 d]) (.agg #[.int .i64 a, .int .i64 b, .int .i64 c, .int .i64 d]); binOp .neq 42 (.agg #[.int .i64 a, .int .i64 b, .int .i64 c, .int .i64 d]) (.agg #[.int .i64 a, .int .i64 b, .int .i64 c, .int .i64 d]) : Sem Value).run Try.prog w = .ok (.bool false) w := by
 have hf : Try.prog.underlying 42 = some (.struct (Try.prog.fieldsOf 42)) := by kernel_rfl
 simp only [Sem.run_bind]
 rw [run_eqGuard_agg w .neq 42 x y _ _ (by kernel_rfl)]
 simp only [Result.andThen_ok, run_neq_struct]
 rw [show (10000 : Nat) = 9999 + 1 from rfl, run_equalIn_agg w 9999 42 _ _ hf (by kernel_rfl)]
 simp [go_sem]
set_option maxRecDepth 100000 in
set_option maxHeartbeats 8000000 in
theorem looks_c {v q1 q2 fr : Int} (hv : 0 ≤ v ∧ v < 4294967296) : Tri Try.prog 5 [.int .u32 v, ptv q1 q2, .int .i64 fr] [] [] (Ret0 (.bool true)) := by
 refine Tri_of (N := 125) Try.func5 rfl ent_5 rfl rfl ?_
 intro w0 S0 T0
 show CJ _ _ _ [(0, _), (1, _), (2, _)] _ _
 refine CJ_seq ?_
 refine CJ_reg ?_
 refine LJ_box (cs := #[_, _]) rfl rfl rfl rfl ?_
 intro b1
 refine LJ_y rfl rfl (YJ_assign rfl) ?_
 refine LJ_nil ?_
 refine QJ_then ?_
 refine CJ_seq ?_
 refine CJ_seq ?_
 refine CJ_reg ?_
 refine LJ_call0 rfl rfl rfl rfl rfl fit10_c (fun _ h => nomatch h) ?_
 refine LJ_y rfl rfl (YJ_not rfl) ?_
 refine LJ_nil ?_
 refine QJ_then ?_
 refine CJ_condF rfl ?_
 refine CJ_skip ?_
 refine QJ_then ?_
 refine CJ_seq ?_
 refine CJ_reg ?_
 refine LJ_y rfl rfl (YJ_move rfl) ?_
 refine LJ_y rfl rfl (YJ_shr rfl rfl (by decide)) ?_
 refine LJ_y rfl rfl (YJ_convII rfl und_45 uint_3) ?_
 refine LJ_y rfl rfl (YJ_move rfl) ?_
 refine LJ_y rfl rfl (YJ_shr rfl rfl (by decide)) ?_
 refine LJ_y rfl rfl (YJ_convII rfl und_45 uint_3) ?_
 refine LJ_y rfl rfl (YJ_move rfl) ?_
 refine LJ_callP (μ1 := []) (μr := [_]) (permI [] rfl) rfl rfl rfl rfl rfl (grid_c (w := IntKind.wrap .i64 (v / 2 ^ 8)) (h := IntKind.wrap .i64 (v / 2 ^ 9)) (fa := 0) hv (by decide)) (fun _ h => nomatch h) ?_
 rintro ⟨B9, F9, border, TA, cT⟩ ⟨hF9, hB9⟩
 have hF9 := hF9 rfl
 dsimp only at hF9 hB9
 subst hF9
 obtain ⟨hpt, hGL⟩ := grid_law (gW_or _) (gW_or _) hB9
 obtain ⟨hgl, hgp⟩ := gPts_ok (gW_or (IntKind.wrap .i64 (v / 2 ^ 8))) (gW_or (IntKind.wrap .i64 (v / 2 ^ 9)))
 show LJ _ _ _ _ ((25, .tuple #[.pointer (some ⟨B9, 0, none⟩), .slice TA _ cT]) :: _) (meshR B9 (buildG [] (gridR [] (gW (IntKind.wrap .i64 (v / 2 ^ 8))) (gW (IntKind.wrap .i64 (v / 2 ^ 9))) (bitN v)) border).M :: _) _
 generalize (buildG [] (gridR [] (gW (IntKind.wrap .i64 (v / 2 ^ 8))) (gW (IntKind.wrap .i64 (v / 2 ^ 9))) (bitN v)) border).M = M9 at *
 rw [← hpt] at hGL hgl hgp
 have hP : ∀ j, j < M9.pts.length → P2 (M9.pts.getD j (0, 0)).1 (M9.pts.getD j (0, 0)).2 := by
  intro j hj
  have := hgp (M9.pts.getD j (0, 0)) (by rw [List.getD_eq_getElem?_getD, List.getElem?_eq_getElem hj]; exact List.getElem_mem hj)
  exact ⟨⟨by omega, by omega⟩, ⟨by omega, by omega⟩⟩
 have hT := hGL.okT
 have hG := hGL.gOk
 have hlen : M9.tris.length ≤ 1073741824 := Nat.le_trans hGL.len (by decide)
 refine LJ_freezeMeshC (fun hm hcT => ?_)
 show LJ _ _ _ _ _ (_ :: _) _
 refine LJ_y rfl rfl (YJ_move rfl) ?_
 refine LJ_y rfl rfl (YJ_extract rfl rfl) ?_
 refine LJ_y rfl rfl (YJ_extract rfl rfl) ?_
 refine LJ_y rfl rfl (YJ_assign rfl) ?_
 refine LJ_y rfl rfl (YJ_assign rfl) ?_
 refine LJ_nil ?_
 refine QJ_then ?_
 refine CJ_seq ?_
 refine CJ_seq ?_
 refine CJ_reg ?_
 refine LJ_y rfl rfl (YJ_move rfl) ?_
 refine LJ_y rfl rfl (YJ_eqs rfl rfl (fun w => eqs_ptr ..)) ?_
 refine LJ_nil ?_
 refine QJ_then ?_
 refine CJ_condF rfl ?_
 refine CJ_skip ?_
 refine QJ_then ?_
 refine CJ_seq ?_
 refine CJ_reg ?_
 refine LJ_y rfl rfl (YJ_loadN (vs := [_, _]) rfl tyi_23 m0 rfl rfl) ?_
 refine LJ_call0 rfl rfl rfl rfl rfl (tame_c) (fun _ h => nomatch h) ?_
 refine LJ_store (cs' := #[_, _]) (μ' := [_]) 0 rfl rfl rfl rfl tyi_23 rfl (Nat.le_of_ble_eq_true rfl) rfl rfl rfl ?_
 refine LJ_nil ?_
 refine QJ_then ?_
 refine CJ_seq ?_
 refine CJ_reg ?_
 refine LJ_y rfl rfl (YJ_move rfl) ?_
 refine LJ_y rfl rfl (YJ_loadN (vs := [_, _]) rfl tyi_23 m0 rfl rfl) ?_
 refine LJ_call0 rfl rfl rfl rfl rfl (look_c (h := hm) hP hT hlen (tm_p q1 q2)) (fun r h => frz_mesh r h) ?_
 generalize hx9 : look M9.pts M9.tris (tm q1, tm q2) = x9
 have hidx := hGL.look_idx (p := (tm q1, tm q2))
 rw [hx9] at hidx
 obtain ⟨hid0, hid1⟩ := hidx
 have hcap := hcT (by omega)
 have hrt := hGL.look_right (p := (tm q1, tm q2))
 rw [hx9] at hrt
 refine LJ_alloc (cs := #[_, _, _, _]) rfl rfl zer_42 rfl ?_
 intro b2
 refine LJ_store (cs' := #[_, _, _, _]) (μ' := [_, _]) 0 rfl rfl rfl rfl tyi_42 rfl (Nat.le_of_ble_eq_true rfl) rfl rfl rfl ?_
 refine LJ_nil ?_
 refine QJ_then ?_
 refine CJ_seq ?_
 refine CJ_reg ?_
 refine LJ_y rfl rfl (YJ_move rfl) ?_
 refine LJ_y rfl rfl (YJ_loadN (vs := [_, _]) rfl tyi_23 m1 rfl rfl) ?_
 refine LJ_y rfl rfl (YJ_move rfl) ?_
 refine LJ_callX rfl rfl rfl rfl rfl (find_c (h := hm) hP hT hlen (tm_p q1 q2) (by decide)) (fun r h => frz_mesh r h) ?_
 rintro ⟨y9, n9⟩ hy9
 obtain ⟨hy1, hy2⟩ := find_zero hy9
 rw [hx9] at hy1
 have hy1 := hy1.symm
 subst hy1
 subst hy2
 refine LJ_y rfl rfl (YJ_move rfl) ?_
 refine LJ_y rfl rfl (YJ_extract rfl rfl) ?_
 refine LJ_y rfl rfl (YJ_extract rfl rfl) ?_
 refine LJ_alloc (cs := #[_, _, _, _]) rfl rfl zer_42 rfl ?_
 intro b3
 refine LJ_store (cs' := #[_, _, _, _]) (μ' := [_, _, _]) 0 rfl rfl rfl rfl tyi_42 rfl (Nat.le_of_ble_eq_true rfl) rfl rfl rfl ?_
 refine LJ_y rfl rfl (YJ_assign rfl) ?_
 refine LJ_nil ?_
 refine QJ_then ?_
 refine CJ_seq ?_
 refine CJ_seq ?_
 refine CJ_reg ?_
 refine LJ_y rfl rfl (YJ_move rfl) ?_
 refine LJ_y rfl rfl (YJ_loadN (vs := [_, _]) rfl tyi_23 m2 rfl rfl) ?_
 refine LJ_y rfl rfl (YJ_loadN (vs := [_, _, _, _]) rfl tyi_42 m1 rfl rfl) ?_
 refine LJ_call0 rfl rfl rfl rfl rfl (rgt_c (h := hm) hP hT hG hlen (tm_p q1 q2)) (fun r h => frz_mesh r h) ?_
 refine LJ_val (v := .bool true) (congrArg Value.bool hrt) ?_
 refine LJ_y rfl rfl (YJ_not rfl) ?_
 refine LJ_y rfl rfl (YJ_move rfl) ?_
 refine LJ_bool (c := false) rfl ?_
 refine LJ_y rfl rfl (YJ_loadN (vs := [_, _, _, _]) rfl tyi_42 m1 rfl rfl) ?_
 refine LJ_y rfl rfl (YJ_loadN (vs := [_, _, _, _]) rfl tyi_42 m0 rfl rfl) ?_
 refine LJ_y rfl rfl (YJ_eqs rfl rfl (fun w => eqs_neq_same ..)) ?_
 refine LJ_y rfl rfl (YJ_pickF rfl rfl) ?_
 refine LJ_y rfl rfl (YJ_move rfl) ?_
 refine LJ_bool (c := false) rfl ?_
 refine LJ_y rfl rfl (YJ_move rfl) ?_
 refine LJ_y rfl rfl (YJ_bin rfl rfl rfl) ?_
 refine LJ_val (v := .bool false) (rfl) ?_
 refine LJ_y rfl rfl (YJ_pickF rfl rfl) ?_
 refine LJ_nil ?_
 refine QJ_then ?_
 refine CJ_condF rfl ?_
 refine CJ_skip ?_
 refine QJ_then ?_
 refine CJ_seq ?_
 refine CJ_seq ?_
 refine CJ_regD mix (by kernel_rfl) (fun _ _ _ _ _ h => h) _ _ (fun _ h => h) (fun _ h => h) ?_
 refine AJ_y 0 rfl (by kernel_rfl) (by kernel_rfl) rfl rfl (YJ_move rfl) ?_
 refine AJ_y 1 rfl (by kernel_rfl) (by kernel_rfl) rfl rfl (YJ_nilCheck rfl) ?_
 refine AJ_y 2 rfl (by kernel_rfl) (by kernel_rfl) rfl rfl (YJ_fieldOwn rfl fld_57_1 rfl) ?_
 refine AJ_y 3 rfl (by kernel_rfl) (by kernel_rfl) rfl rfl (YJ_loadFactP (A := some ⟨B9, 0, none⟩) (j := 1) rfl rfl tyi_54 m0 rfl) ?_
 refine AJ_y 4 rfl (by kernel_rfl) (by kernel_rfl) rfl rfl (YJ_fieldOwn rfl fld_42_1 rfl) ?_
 refine AJ_y 5 rfl (by kernel_rfl) (by kernel_rfl) rfl rfl (YJ_loadL rfl tyi_3 m1 rfl) ?_
 refine AJ_y 6 rfl (by kernel_rfl) (by kernel_rfl) rfl rfl (YJ_sliceH (m := x9.2.1.toNat) rfl rfl elt_54 (by omega) (by omega)) ?_
 refine AJ_y 7 rfl (by kernel_rfl) (by kernel_rfl) rfl rfl (YJ_len rfl ulen_54 rfl) ?_
 refine AJ_y 8 rfl (by kernel_rfl) (by kernel_rfl) rfl rfl (YJ_move rfl) ?_
 refine AJ_done (by kernel_rfl) ?_
 refine QJ_then ?_
 refine CJ_block ?_
 refine CJ_loopF (F := fun (i : Nat) => ⟨[(4, .pointer (some ⟨b1, 0, none⟩)), (7, .pointer (some ⟨B9, 0, none⟩)), (9, .pointer (some ⟨b2, 0, none⟩)), (62, .slice hm.T x9.2.1.toNat hm.ct), (63, .int .i64 (x9.2.1.toNat : Nat)), (64, .int .i64 (i : Nat))], [cellsR b2 #[.int .i64 x9.1, .int .i64 x9.2.1, .int .i64 x9.2.2.1, .int .i64 x9.2.2.2] 42, cellsR b1 #[.int .i64 (tm q1), .int .i64 (tm q2)] 23], []⟩) (I := fun (i : Nat) => i ≤ x9.2.1.toNat) (m := fun (i : Nat) => x9.2.1.toNat - i) 0 (μr := [_]) (Nat.zero_le _) (And.intro rfl (And.intro rfl (And.intro rfl (And.intro rfl (And.intro rfl (And.intro rfl (trivial))))))) (permI [1, 1] rfl) (fun _ h => nomatch h) ?_
 rintro k hk
 try dsimp only at hk
 show CJ _ _ _ [(4, .pointer (some ⟨b1, 0, none⟩)), (7, .pointer (some ⟨B9, 0, none⟩)), (9, .pointer (some ⟨b2, 0, none⟩)), (62, .slice hm.T x9.2.1.toNat hm.ct), (63, .int .i64 (x9.2.1.toNat : Nat)), (64, .int .i64 (k : Nat))] (cellsR b2 #[.int .i64 x9.1, .int .i64 x9.2.1, .int .i64 x9.2.2.1, .int .i64 x9.2.2.2] 42 :: cellsR b1 #[.int .i64 (tm q1), .int .i64 (tm q2)] 23 :: _ :: _) _
 refine CJ_seq ?_
 refine CJ_reg ?_
 refine LJ_y rfl rfl (YJ_bin rfl rfl rfl) ?_
 refine LJ_nil ?_
 refine QJ_then ?_
 refine CJ_seq ?_
 refine CJ_cond rfl (fun h65 => ?_) (fun h65 => ?_)
 ·simp only [decide_eq_true_eq] at h65
  obtain ⟨z, hz⟩ : ∃ z, M9.tris[k]? = some z := ⟨M9.tris[k]'(by omega), List.getElem?_eq_getElem (by omega)⟩
  have hbef := hGL.before (p := (tm q1, tm q2)) (q := k) (by rw [hx9]; omega) hz
  rw [hx9] at hbef
  have hri := real_iff (tris := M9.tris) (i := ((k : Nat) : Int)) (by omega) (cast_idx hz)
  refine CJ_skip ?_
  refine QJ_then ?_
  refine CJ_seq ?_
  refine CJ_block ?_
  refine CJ_seq ?_
  refine CJ_reg ?_
  refine LJ_y rfl rfl (YJ_move rfl) ?_
  refine LJ_y rfl rfl (YJ_ixFact (n' := M9.tris.length) rfl rfl elt_54 m2 (by decide) (by omega) (by omega) (by omega)) ?_
  refine LJ_y rfl rfl (YJ_loadFactN (vs := [.int .i64 z.v0, .int .i64 z.v1, .int .i64 z.v2, .int .i64 z.n0, .int .i64 z.n1, .int .i64 z.n2, .bool z.f0, .bool z.f1, .bool z.f2]) (xs := trCells M9.tris) rfl tyi_37 m2 (trCells_row (cast_idx hz)) rfl) ?_
  refine LJ_alloc (cs := #[_, _, _, _, _, _, _, _, _]) rfl rfl zer_37 rfl ?_
  intro b4
  refine LJ_y rfl rfl (YJ_assign rfl) ?_
  refine LJ_store (cs' := #[_, _, _, _, _, _, _, _, _]) (μ' := [_, _, _, _]) 0 rfl rfl rfl rfl tyi_37 rfl (Nat.le_of_ble_eq_true rfl) rfl (wr_all rfl) rfl ?_
  refine LJ_nil ?_
  refine QJ_then ?_
  refine CJ_seq ?_
  refine CJ_seq ?_
  refine CJ_reg ?_
  refine LJ_y rfl rfl (YJ_move rfl) ?_
  refine LJ_y rfl rfl (YJ_move rfl) ?_
  refine LJ_call0 rfl rfl rfl rfl rfl (real_c (h := hm) (pts := M9.pts) (tris := M9.tris)) (fun r h => frz_mesh r h) ?_
  refine LJ_nil ?_
  refine QJ_then ?_
  refine CJ_cond rfl (fun h71 => ?_) (fun h71 => ?_)
  ·simp only [decide_eq_true_eq] at h71
   have hzr : z.real := hri.1 h71
   have hzo := hT z (List.mem_of_getElem? hz) hzr
   refine CJ_seq ?_
   refine CJ_seq ?_
   refine CJ_reg ?_
   refine LJ_y rfl rfl (YJ_fieldOwn rfl fld_42_0 rfl) ?_
   refine LJ_y rfl rfl (YJ_loadL rfl tyi_3 m1 rfl) ?_
   refine LJ_y rfl rfl (YJ_bin rfl rfl rfl) ?_
   refine LJ_y rfl rfl (YJ_move rfl) ?_
   refine LJ_boolC (fun h75 => ?_) (fun h75 => ?_)
   ·simp only [decide_eq_false_iff_not, Bool.not_eq_true'] at h75
    refine LJ_y rfl rfl (YJ_move rfl) ?_
    refine LJ_y rfl rfl (YJ_move rfl) ?_
    refine LJ_y rfl rfl (YJ_loadN (vs := [_, _]) rfl tyi_23 m2 rfl rfl) ?_
    refine LJ_call0 rfl rfl rfl rfl rfl (holds_c (h := hm) (tris := M9.tris) hP (Int.natCast_nonneg k) (cast_idx hz) hzo (tm_p q1 q2)) (fun r h => frz_mesh r h) ?_
    refine LJ_val (v := .bool false) (congrArg Value.bool (decide_eq_false (hbef.1 hzr h75))) ?_
    refine LJ_y rfl rfl (YJ_pickT rfl rfl) ?_
    refine LJ_nil ?_
    refine QJ_then ?_
    refine CJ_condF rfl ?_
    refine CJ_skip ?_
    refine QJ_then ?_
    refine CJ_exit ?_
    refine QJ_then_exit ?_
    refine QJ_in_exit ?_
    refine QJ_then ?_
    refine CJ_reg ?_
    refine LJ_y rfl rfl (YJ_bin rfl rfl (iop_add (by omega))) ?_
    refine LJ_y rfl rfl (YJ_move rfl) ?_
    refine LJ_nil ?_
    refine QJ_roundF (F := fun (i : Nat) => ⟨[(4, .pointer (some ⟨b1, 0, none⟩)), (7, .pointer (some ⟨B9, 0, none⟩)), (9, .pointer (some ⟨b2, 0, none⟩)), (62, .slice hm.T x9.2.1.toNat hm.ct), (63, .int .i64 (x9.2.1.toNat : Nat)), (64, .int .i64 (i : Nat))], [cellsR b2 #[.int .i64 x9.1, .int .i64 x9.2.1, .int .i64 x9.2.2.1, .int .i64 x9.2.2.2] 42, cellsR b1 #[.int .i64 (tm q1), .int .i64 (tm q2)] 23], []⟩) (I := fun (i : Nat) => i ≤ x9.2.1.toNat) (m := fun (i : Nat) => x9.2.1.toNat - i) (i := k) (k + 1) (μd := [_]) (by omega) (by omega) (And.intro rfl (And.intro rfl (And.intro rfl (And.intro rfl (And.intro rfl (And.intro rfl (trivial))))))) (permI [1, 1, 1] rfl) (fun _ h => nomatch h) (fun _ h => h)
   ·simp only [decide_eq_true_eq, Bool.not_eq_false'] at h75
    refine LJ_skip rfl rfl ?_
    refine LJ_skip rfl rfl ?_
    refine LJ_skip rfl rfl ?_
    refine LJ_skip rfl rfl ?_
    refine LJ_y rfl rfl (YJ_pickF rfl rfl) ?_
    refine LJ_nil ?_
    refine QJ_then ?_
    refine CJ_condF rfl ?_
    refine CJ_skip ?_
    refine QJ_then ?_
    refine CJ_exit ?_
    refine QJ_then_exit ?_
    refine QJ_in_exit ?_
    refine QJ_then ?_
    refine CJ_reg ?_
    refine LJ_y rfl rfl (YJ_bin rfl rfl (iop_add (by omega))) ?_
    refine LJ_y rfl rfl (YJ_move rfl) ?_
    refine LJ_nil ?_
    refine QJ_roundF (F := fun (i : Nat) => ⟨[(4, .pointer (some ⟨b1, 0, none⟩)), (7, .pointer (some ⟨B9, 0, none⟩)), (9, .pointer (some ⟨b2, 0, none⟩)), (62, .slice hm.T x9.2.1.toNat hm.ct), (63, .int .i64 (x9.2.1.toNat : Nat)), (64, .int .i64 (i : Nat))], [cellsR b2 #[.int .i64 x9.1, .int .i64 x9.2.1, .int .i64 x9.2.2.1, .int .i64 x9.2.2.2] 42, cellsR b1 #[.int .i64 (tm q1), .int .i64 (tm q2)] 23], []⟩) (I := fun (i : Nat) => i ≤ x9.2.1.toNat) (m := fun (i : Nat) => x9.2.1.toNat - i) (i := k) (k + 1) (μd := [_]) (by omega) (by omega) (And.intro rfl (And.intro rfl (And.intro rfl (And.intro rfl (And.intro rfl (And.intro rfl (trivial))))))) (permI [1, 1, 1] rfl) (fun _ h => nomatch h) (fun _ h => h)
  ·simp only [decide_eq_false_iff_not] at h71
   have hzn : ¬ z.real := fun q => h71 (hri.2 q)
   obtain ⟨⟨ga0, ga1⟩, ⟨gb0, gb1⟩, gc, _⟩ := hGL.ghost hz hzn
   have hpa := hP z.v0.toNat (by omega)
   have hpb := hP z.v1.toNat (by omega)
   refine CJ_skip ?_
   refine QJ_then ?_
   refine CJ_seq ?_
   refine CJ_reg ?_
   refine LJ_y rfl rfl (YJ_move rfl) ?_
   refine LJ_nil ?_
   refine QJ_then ?_
   refine CJ_block ?_
   refine CJ_loopF (F := fun (i : Nat) => ⟨[(4, .pointer (some ⟨b1, 0, none⟩)), (7, .pointer (some ⟨B9, 0, none⟩)), (9, .pointer (some ⟨b2, 0, none⟩)), (62, .slice hm.T x9.2.1.toNat hm.ct), (63, .int .i64 (x9.2.1.toNat : Nat)), (64, .int .i64 (k : Nat)), (13, .pointer (some ⟨b4, 0, none⟩)), (81, .int .i64 (i : Nat))], [cellsR b4 #[.int .i64 z.v0, .int .i64 z.v1, .int .i64 z.v2, .int .i64 z.n0, .int .i64 z.n1, .int .i64 z.n2, .bool z.f0, .bool z.f1, .bool z.f2] 37, cellsR b2 #[.int .i64 x9.1, .int .i64 x9.2.1, .int .i64 x9.2.2.1, .int .i64 x9.2.2.2] 42, cellsR b1 #[.int .i64 (tm q1), .int .i64 (tm q2)] 23], []⟩) (I := fun (i : Nat) => i ≤ 3) (m := fun (i : Nat) => 3 - i) 0 (μr := [_]) (Nat.zero_le _) (And.intro rfl (And.intro rfl (And.intro rfl (And.intro rfl (And.intro rfl (And.intro rfl (And.intro rfl (And.intro rfl (trivial))))))))) (permI [] rfl) (fun _ h => nomatch h) ?_
   rintro j hj
   try dsimp only at hj
   show CJ _ _ _ [(4, .pointer (some ⟨b1, 0, none⟩)), (7, .pointer (some ⟨B9, 0, none⟩)), (9, .pointer (some ⟨b2, 0, none⟩)), (62, .slice hm.T x9.2.1.toNat hm.ct), (63, .int .i64 (x9.2.1.toNat : Nat)), (64, .int .i64 (k : Nat)), (13, .pointer (some ⟨b4, 0, none⟩)), (81, .int .i64 (j : Nat))] (cellsR b4 #[.int .i64 z.v0, .int .i64 z.v1, .int .i64 z.v2, .int .i64 z.n0, .int .i64 z.n1, .int .i64 z.n2, .bool z.f0, .bool z.f1, .bool z.f2] 37 :: cellsR b2 #[.int .i64 x9.1, .int .i64 x9.2.1, .int .i64 x9.2.2.1, .int .i64 x9.2.2.2] 42 :: cellsR b1 #[.int .i64 (tm q1), .int .i64 (tm q2)] 23 :: _ :: _) _
   refine CJ_seq ?_
   refine CJ_reg ?_
   refine LJ_y rfl rfl (YJ_bin rfl rfl rfl) ?_
   refine LJ_nil ?_
   refine QJ_then ?_
   refine CJ_seq ?_
   refine CJ_cond rfl (fun h82 => ?_) (fun h82 => ?_)
   ·simp only [decide_eq_true_eq] at h82
    have hj3 : j < 3 := by omega
    refine CJ_skip ?_
    refine QJ_then ?_
    refine CJ_seq ?_
    refine CJ_block ?_
    refine CJ_seq ?_
    refine CJ_reg ?_
    refine LJ_y rfl rfl (YJ_move rfl) ?_
    refine LJ_y rfl rfl (YJ_assign rfl) ?_
    refine LJ_nil ?_
    refine QJ_then ?_
    refine CJ_seq ?_
    refine CJ_regD mix (by kernel_rfl) (fun _ _ _ _ _ h => h) _ _ (fun _ h => h) (fun _ h => h) ?_
    refine AJ_y 0 rfl (by kernel_rfl) (by kernel_rfl) rfl rfl (YJ_move rfl) ?_
    refine AJ_y 1 rfl (by kernel_rfl) (by kernel_rfl) rfl rfl (YJ_fieldOwn rfl fld_37_0 rfl) ?_
    refine AJ_y 2 rfl (by kernel_rfl) (by kernel_rfl) rfl rfl (YJ_ixArr rfl rfl arrt_34 (by omega) (by omega) rfl) ?_
    refine AJ_y 3 rfl (by kernel_rfl) (by kernel_rfl) rfl rfl (YJ_load1 rfl tyi_3 m0 (v_get hj3)) ?_
    refine AJ_y 4 rfl (by kernel_rfl) (by kernel_rfl) rfl rfl (YJ_bin rfl rfl rfl) ?_
    refine AJ_y 5 rfl (by kernel_rfl) (by kernel_rfl) rfl rfl (YJ_move rfl) ?_
    refine AJ_boolC (fun h89 => ?_) (fun h89 => ?_)
    ·simp only [decide_eq_true_eq] at h89
     obtain rfl : j = 2 := by
      match j, hj3 with
      | 0, _ => have : z.v0 = -1 := h89; omega
      | 1, _ => have : z.v1 = -1 := h89; omega
      | 2, _ => rfl
     refine AJ_y 6 rfl (by kernel_rfl) (by kernel_rfl) rfl rfl (YJ_fieldOwn rfl fld_42_0 rfl) ?_
     refine AJ_y 7 rfl (by kernel_rfl) (by kernel_rfl) rfl rfl (YJ_loadL rfl tyi_3 m1 rfl) ?_
     refine AJ_y 8 rfl (by kernel_rfl) (by kernel_rfl) rfl rfl (YJ_bin rfl rfl rfl) ?_
     refine AJ_y 9 rfl (by kernel_rfl) (by kernel_rfl) rfl rfl (YJ_pickT rfl rfl) ?_
     refine AJ_y 10 rfl (by kernel_rfl) (by kernel_rfl) rfl rfl (YJ_move rfl) ?_
     refine AJ_boolC (fun h94 => ?_) (fun h94 => ?_)
     ·simp only [decide_eq_true_eq] at h94
      refine AJ_y 11 rfl (by kernel_rfl) (by kernel_rfl) rfl rfl (YJ_move rfl) ?_
      refine AJ_y 12 rfl (by kernel_rfl) (by kernel_rfl) rfl rfl (YJ_nilCheck rfl) ?_
      refine AJ_y 13 rfl (by kernel_rfl) (by kernel_rfl) rfl rfl (YJ_fieldOwn rfl fld_57_0 rfl) ?_
      refine AJ_y 14 rfl (by kernel_rfl) (by kernel_rfl) rfl rfl (YJ_loadFactP (A := some ⟨B9, 0, none⟩) (j := 0) rfl rfl tyi_26 m0 rfl) ?_
      refine AJ_y 15 rfl (by kernel_rfl) (by kernel_rfl) rfl rfl (YJ_move rfl) ?_
      refine AJ_y 16 rfl (by kernel_rfl) (by kernel_rfl) rfl rfl (YJ_bin rfl rfl (iop_add (by omega))) ?_
      refine AJ_y 17 rfl (by kernel_rfl) (by kernel_rfl) rfl rfl (YJ_rem rfl rfl (by first | decide | omega)) ?_
      refine AJ_val (v := .int .i64 0) (rfl) ?_
      refine AJ_y 18 rfl (by kernel_rfl) (by kernel_rfl) rfl rfl (YJ_fieldOwn rfl fld_37_0 rfl) ?_
      refine AJ_y 19 rfl (by kernel_rfl) (by kernel_rfl) rfl rfl (YJ_ixArr rfl rfl arrt_34 (by omega) (by omega) rfl) ?_
      refine AJ_y 20 rfl (by kernel_rfl) (by kernel_rfl) rfl rfl (YJ_loadL rfl tyi_3 m0 rfl) ?_
      refine AJ_y 21 rfl (by kernel_rfl) (by kernel_rfl) rfl rfl (YJ_ixFact rfl rfl elt_26 m1 (by decide) (by omega) (by omega) (by omega)) ?_
      refine AJ_y 22 rfl (by kernel_rfl) (by kernel_rfl) rfl rfl (YJ_loadFactN (vs := [_, _]) (xs := ptCells M9.pts) rfl tyi_23 m1 (ptCells_get (i := (z.v0).toNat) (by omega)) rfl) ?_
      refine AJ_y 23 rfl (by kernel_rfl) (by kernel_rfl) rfl rfl (YJ_move rfl) ?_
      refine AJ_y 24 rfl (by kernel_rfl) (by kernel_rfl) rfl rfl (YJ_nilCheck rfl) ?_
      refine AJ_y 25 rfl (by kernel_rfl) (by kernel_rfl) rfl rfl (YJ_fieldOwn rfl fld_57_0 rfl) ?_
      refine AJ_y 26 rfl (by kernel_rfl) (by kernel_rfl) rfl rfl (YJ_loadFactP (A := some ⟨B9, 0, none⟩) (j := 0) rfl rfl tyi_26 m0 rfl) ?_
      refine AJ_y 27 rfl (by kernel_rfl) (by kernel_rfl) rfl rfl (YJ_move rfl) ?_
      refine AJ_y 28 rfl (by kernel_rfl) (by kernel_rfl) rfl rfl (YJ_bin rfl rfl (iop_add (by omega))) ?_
      refine AJ_y 29 rfl (by kernel_rfl) (by kernel_rfl) rfl rfl (YJ_rem rfl rfl (by first | decide | omega)) ?_
      refine AJ_val (v := .int .i64 1) (rfl) ?_
      refine AJ_y 30 rfl (by kernel_rfl) (by kernel_rfl) rfl rfl (YJ_fieldOwn rfl fld_37_0 rfl) ?_
      refine AJ_y 31 rfl (by kernel_rfl) (by kernel_rfl) rfl rfl (YJ_ixArr rfl rfl arrt_34 (by omega) (by omega) rfl) ?_
      refine AJ_y 32 rfl (by kernel_rfl) (by kernel_rfl) rfl rfl (YJ_loadL rfl tyi_3 m0 rfl) ?_
      refine AJ_y 33 rfl (by kernel_rfl) (by kernel_rfl) rfl rfl (YJ_ixFact rfl rfl elt_26 m1 (by decide) (by omega) (by omega) (by omega)) ?_
      refine AJ_y 34 rfl (by kernel_rfl) (by kernel_rfl) rfl rfl (YJ_loadFactN (vs := [_, _]) (xs := ptCells M9.pts) rfl tyi_23 m1 (ptCells_get (i := (z.v1).toNat) (by omega)) rfl) ?_
      refine AJ_y 35 rfl (by kernel_rfl) (by kernel_rfl) rfl rfl (YJ_loadN (vs := [_, _]) rfl tyi_23 m2 rfl rfl) ?_
      refine AJ_call0 36 rfl (by kernel_rfl) rfl rfl rfl rfl rfl (orient_c hpa hpb (tm_p q1 q2)) (fun _ h => nomatch h) ?_
      refine AJ_y 37 rfl (by kernel_rfl) (by kernel_rfl) rfl rfl (YJ_bin rfl rfl rfl) ?_
      refine AJ_val (v := .bool false) (congrArg Value.bool (decide_eq_false (fun q => hbef.2 hzn h94 2 (by decide) h89 (sgn_pos.1 q)))) ?_
      refine AJ_y 38 rfl (by kernel_rfl) (by kernel_rfl) rfl rfl (YJ_pickT rfl rfl) ?_
      refine AJ_done (by kernel_rfl) ?_
      refine QJ_then ?_
      refine CJ_condF rfl ?_
      refine CJ_skip ?_
      refine QJ_in_normal ?_
      refine QJ_then ?_
      refine CJ_reg ?_
      refine LJ_y rfl rfl (YJ_bin rfl rfl (iop_add (by omega))) ?_
      refine LJ_y rfl rfl (YJ_move rfl) ?_
      refine LJ_nil ?_
      refine QJ_roundF (F := fun (i : Nat) => ⟨[(4, .pointer (some ⟨b1, 0, none⟩)), (7, .pointer (some ⟨B9, 0, none⟩)), (9, .pointer (some ⟨b2, 0, none⟩)), (62, .slice hm.T x9.2.1.toNat hm.ct), (63, .int .i64 (x9.2.1.toNat : Nat)), (64, .int .i64 (k : Nat)), (13, .pointer (some ⟨b4, 0, none⟩)), (81, .int .i64 (i : Nat))], [cellsR b4 #[.int .i64 z.v0, .int .i64 z.v1, .int .i64 z.v2, .int .i64 z.n0, .int .i64 z.n1, .int .i64 z.n2, .bool z.f0, .bool z.f1, .bool z.f2] 37, cellsR b2 #[.int .i64 x9.1, .int .i64 x9.2.1, .int .i64 x9.2.2.1, .int .i64 x9.2.2.2] 42, cellsR b1 #[.int .i64 (tm q1), .int .i64 (tm q2)] 23], []⟩) (I := fun (i : Nat) => i ≤ 3) (m := fun (i : Nat) => 3 - i) (i := _) (3) (μd := []) (by omega) (by omega) (And.intro rfl (And.intro rfl (And.intro rfl (And.intro rfl (And.intro rfl (And.intro rfl (And.intro rfl (And.intro rfl (trivial))))))))) (permI [] rfl) (fun _ h => nomatch h) (fun _ h => h)
     ·simp only [decide_eq_false_iff_not] at h94
      refine AJ_skip 11 rfl (by kernel_rfl) (by kernel_rfl) rfl rfl ?_
      refine AJ_skip 12 rfl (by kernel_rfl) (by kernel_rfl) rfl rfl ?_
      refine AJ_skip 13 rfl (by kernel_rfl) (by kernel_rfl) rfl rfl ?_
      refine AJ_skip 14 rfl (by kernel_rfl) (by kernel_rfl) rfl rfl ?_
      refine AJ_skip 15 rfl (by kernel_rfl) (by kernel_rfl) rfl rfl ?_
      refine AJ_skip 16 rfl (by kernel_rfl) (by kernel_rfl) rfl rfl ?_
      refine AJ_skip 17 rfl (by kernel_rfl) (by kernel_rfl) rfl rfl ?_
      refine AJ_skip 18 rfl (by kernel_rfl) (by kernel_rfl) rfl rfl ?_
      refine AJ_skip 19 rfl (by kernel_rfl) (by kernel_rfl) rfl rfl ?_
      refine AJ_skip 20 rfl (by kernel_rfl) (by kernel_rfl) rfl rfl ?_
      refine AJ_skip 21 rfl (by kernel_rfl) (by kernel_rfl) rfl rfl ?_
      refine AJ_skip 22 rfl (by kernel_rfl) (by kernel_rfl) rfl rfl ?_
      refine AJ_skip 23 rfl (by kernel_rfl) (by kernel_rfl) rfl rfl ?_
      refine AJ_skip 24 rfl (by kernel_rfl) (by kernel_rfl) rfl rfl ?_
      refine AJ_skip 25 rfl (by kernel_rfl) (by kernel_rfl) rfl rfl ?_
      refine AJ_skip 26 rfl (by kernel_rfl) (by kernel_rfl) rfl rfl ?_
      refine AJ_skip 27 rfl (by kernel_rfl) (by kernel_rfl) rfl rfl ?_
      refine AJ_skip 28 rfl (by kernel_rfl) (by kernel_rfl) rfl rfl ?_
      refine AJ_skip 29 rfl (by kernel_rfl) (by kernel_rfl) rfl rfl ?_
      refine AJ_skip 30 rfl (by kernel_rfl) (by kernel_rfl) rfl rfl ?_
      refine AJ_skip 31 rfl (by kernel_rfl) (by kernel_rfl) rfl rfl ?_
      refine AJ_skip 32 rfl (by kernel_rfl) (by kernel_rfl) rfl rfl ?_
      refine AJ_skip 33 rfl (by kernel_rfl) (by kernel_rfl) rfl rfl ?_
      refine AJ_skip 34 rfl (by kernel_rfl) (by kernel_rfl) rfl rfl ?_
      refine AJ_skip 35 rfl (by kernel_rfl) (by kernel_rfl) rfl rfl ?_
      refine AJ_skip 36 rfl (by kernel_rfl) (by kernel_rfl) rfl rfl ?_
      refine AJ_skip 37 rfl (by kernel_rfl) (by kernel_rfl) rfl rfl ?_
      refine AJ_y 38 rfl (by kernel_rfl) (by kernel_rfl) rfl rfl (YJ_pickF rfl rfl) ?_
      refine AJ_done (by kernel_rfl) ?_
      refine QJ_then ?_
      refine CJ_condF rfl ?_
      refine CJ_skip ?_
      refine QJ_in_normal ?_
      refine QJ_then ?_
      refine CJ_reg ?_
      refine LJ_y rfl rfl (YJ_bin rfl rfl (iop_add (by omega))) ?_
      refine LJ_y rfl rfl (YJ_move rfl) ?_
      refine LJ_nil ?_
      refine QJ_roundF (F := fun (i : Nat) => ⟨[(4, .pointer (some ⟨b1, 0, none⟩)), (7, .pointer (some ⟨B9, 0, none⟩)), (9, .pointer (some ⟨b2, 0, none⟩)), (62, .slice hm.T x9.2.1.toNat hm.ct), (63, .int .i64 (x9.2.1.toNat : Nat)), (64, .int .i64 (k : Nat)), (13, .pointer (some ⟨b4, 0, none⟩)), (81, .int .i64 (i : Nat))], [cellsR b4 #[.int .i64 z.v0, .int .i64 z.v1, .int .i64 z.v2, .int .i64 z.n0, .int .i64 z.n1, .int .i64 z.n2, .bool z.f0, .bool z.f1, .bool z.f2] 37, cellsR b2 #[.int .i64 x9.1, .int .i64 x9.2.1, .int .i64 x9.2.2.1, .int .i64 x9.2.2.2] 42, cellsR b1 #[.int .i64 (tm q1), .int .i64 (tm q2)] 23], []⟩) (I := fun (i : Nat) => i ≤ 3) (m := fun (i : Nat) => 3 - i) (i := _) (3) (μd := []) (by omega) (by omega) (And.intro rfl (And.intro rfl (And.intro rfl (And.intro rfl (And.intro rfl (And.intro rfl (And.intro rfl (And.intro rfl (trivial))))))))) (permI [] rfl) (fun _ h => nomatch h) (fun _ h => h)
    ·simp only [decide_eq_false_iff_not] at h89
     refine AJ_skip 6 rfl (by kernel_rfl) (by kernel_rfl) rfl rfl ?_
     refine AJ_skip 7 rfl (by kernel_rfl) (by kernel_rfl) rfl rfl ?_
     refine AJ_skip 8 rfl (by kernel_rfl) (by kernel_rfl) rfl rfl ?_
     refine AJ_y 9 rfl (by kernel_rfl) (by kernel_rfl) rfl rfl (YJ_pickF rfl rfl) ?_
     refine AJ_y 10 rfl (by kernel_rfl) (by kernel_rfl) rfl rfl (YJ_move rfl) ?_
     refine AJ_skip 11 rfl (by kernel_rfl) (by kernel_rfl) rfl rfl ?_
     refine AJ_skip 12 rfl (by kernel_rfl) (by kernel_rfl) rfl rfl ?_
     refine AJ_skip 13 rfl (by kernel_rfl) (by kernel_rfl) rfl rfl ?_
     refine AJ_skip 14 rfl (by kernel_rfl) (by kernel_rfl) rfl rfl ?_
     refine AJ_skip 15 rfl (by kernel_rfl) (by kernel_rfl) rfl rfl ?_
     refine AJ_skip 16 rfl (by kernel_rfl) (by kernel_rfl) rfl rfl ?_
     refine AJ_skip 17 rfl (by kernel_rfl) (by kernel_rfl) rfl rfl ?_
     refine AJ_skip 18 rfl (by kernel_rfl) (by kernel_rfl) rfl rfl ?_
     refine AJ_skip 19 rfl (by kernel_rfl) (by kernel_rfl) rfl rfl ?_
     refine AJ_skip 20 rfl (by kernel_rfl) (by kernel_rfl) rfl rfl ?_
     refine AJ_skip 21 rfl (by kernel_rfl) (by kernel_rfl) rfl rfl ?_
     refine AJ_skip 22 rfl (by kernel_rfl) (by kernel_rfl) rfl rfl ?_
     refine AJ_skip 23 rfl (by kernel_rfl) (by kernel_rfl) rfl rfl ?_
     refine AJ_skip 24 rfl (by kernel_rfl) (by kernel_rfl) rfl rfl ?_
     refine AJ_skip 25 rfl (by kernel_rfl) (by kernel_rfl) rfl rfl ?_
     refine AJ_skip 26 rfl (by kernel_rfl) (by kernel_rfl) rfl rfl ?_
     refine AJ_skip 27 rfl (by kernel_rfl) (by kernel_rfl) rfl rfl ?_
     refine AJ_skip 28 rfl (by kernel_rfl) (by kernel_rfl) rfl rfl ?_
     refine AJ_skip 29 rfl (by kernel_rfl) (by kernel_rfl) rfl rfl ?_
     refine AJ_skip 30 rfl (by kernel_rfl) (by kernel_rfl) rfl rfl ?_
     refine AJ_skip 31 rfl (by kernel_rfl) (by kernel_rfl) rfl rfl ?_
     refine AJ_skip 32 rfl (by kernel_rfl) (by kernel_rfl) rfl rfl ?_
     refine AJ_skip 33 rfl (by kernel_rfl) (by kernel_rfl) rfl rfl ?_
     refine AJ_skip 34 rfl (by kernel_rfl) (by kernel_rfl) rfl rfl ?_
     refine AJ_skip 35 rfl (by kernel_rfl) (by kernel_rfl) rfl rfl ?_
     refine AJ_skip 36 rfl (by kernel_rfl) (by kernel_rfl) rfl rfl ?_
     refine AJ_skip 37 rfl (by kernel_rfl) (by kernel_rfl) rfl rfl ?_
     refine AJ_y 38 rfl (by kernel_rfl) (by kernel_rfl) rfl rfl (YJ_pickF rfl rfl) ?_
     refine AJ_done (by kernel_rfl) ?_
     refine QJ_then ?_
     refine CJ_condF rfl ?_
     refine CJ_skip ?_
     refine QJ_in_normal ?_
     refine QJ_then ?_
     refine CJ_reg ?_
     refine LJ_y rfl rfl (YJ_bin rfl rfl (iop_add (by omega))) ?_
     refine LJ_y rfl rfl (YJ_move rfl) ?_
     refine LJ_nil ?_
     refine QJ_roundF (F := fun (i : Nat) => ⟨[(4, .pointer (some ⟨b1, 0, none⟩)), (7, .pointer (some ⟨B9, 0, none⟩)), (9, .pointer (some ⟨b2, 0, none⟩)), (62, .slice hm.T x9.2.1.toNat hm.ct), (63, .int .i64 (x9.2.1.toNat : Nat)), (64, .int .i64 (k : Nat)), (13, .pointer (some ⟨b4, 0, none⟩)), (81, .int .i64 (i : Nat))], [cellsR b4 #[.int .i64 z.v0, .int .i64 z.v1, .int .i64 z.v2, .int .i64 z.n0, .int .i64 z.n1, .int .i64 z.n2, .bool z.f0, .bool z.f1, .bool z.f2] 37, cellsR b2 #[.int .i64 x9.1, .int .i64 x9.2.1, .int .i64 x9.2.2.1, .int .i64 x9.2.2.2] 42, cellsR b1 #[.int .i64 (tm q1), .int .i64 (tm q2)] 23], []⟩) (I := fun (i : Nat) => i ≤ 3) (m := fun (i : Nat) => 3 - i) (i := _) (j + 1) (μd := []) (by omega) (by omega) (And.intro rfl (And.intro rfl (And.intro rfl (And.intro rfl (And.intro rfl (And.intro rfl (And.intro rfl (And.intro rfl (trivial))))))))) (permI [] rfl) (fun _ h => nomatch h) (fun _ h => h)
   ·simp only [decide_eq_false_iff_not] at h82
    refine CJ_exit ?_
    refine QJ_then_exit ?_
    refine QJ_then_exit ?_
    refine QJ_in_exit ?_
    refine QJ_in_normal ?_
    refine QJ_then ?_
    refine CJ_reg ?_
    refine LJ_y rfl rfl (YJ_bin rfl rfl (iop_add (by omega))) ?_
    refine LJ_y rfl rfl (YJ_move rfl) ?_
    refine LJ_nil ?_
    refine QJ_roundF (F := fun (i : Nat) => ⟨[(4, .pointer (some ⟨b1, 0, none⟩)), (7, .pointer (some ⟨B9, 0, none⟩)), (9, .pointer (some ⟨b2, 0, none⟩)), (62, .slice hm.T x9.2.1.toNat hm.ct), (63, .int .i64 (x9.2.1.toNat : Nat)), (64, .int .i64 (i : Nat))], [cellsR b2 #[.int .i64 x9.1, .int .i64 x9.2.1, .int .i64 x9.2.2.1, .int .i64 x9.2.2.2] 42, cellsR b1 #[.int .i64 (tm q1), .int .i64 (tm q2)] 23], []⟩) (I := fun (i : Nat) => i ≤ x9.2.1.toNat) (m := fun (i : Nat) => x9.2.1.toNat - i) (i := k) (k + 1) (μd := [_]) (by omega) (by omega) (And.intro rfl (And.intro rfl (And.intro rfl (And.intro rfl (And.intro rfl (And.intro rfl (trivial))))))) (permI [1, 1, 1] rfl) (fun _ h => nomatch h) (fun _ h => h)
 ·simp only [decide_eq_false_iff_not] at h65
  refine CJ_exit ?_
  refine QJ_then_exit ?_
  refine QJ_then_exit ?_
  refine QJ_in_exit ?_
  refine QJ_then ?_
  refine CJ_seq ?_
  refine CJ_reg ?_
  refine LJ_y rfl rfl (YJ_assign rfl) ?_
  refine LJ_nil ?_
  refine QJ_then ?_
  refine CJ_ret ?_
  refine QJ_fin (.inl rfl) (μ' := []) (μr := _) (φ' := []) (res_tmp rfl rfl) (List.Perm.refl _) (fun _ h => nomatch h) ?_
  exact ⟨rfl, rfl, rfl⟩
end Go.Proofs.Ytbanlhlggkdanaa
