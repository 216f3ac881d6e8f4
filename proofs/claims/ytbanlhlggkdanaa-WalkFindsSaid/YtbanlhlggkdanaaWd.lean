/- What the laws of walk need. Part 4: the texts of H3 H4 Map J1 J2 J3 J4 K1 K2 H5 K3. -/
import Derived.Test.YtbanlhlggkdanaaWc
import Derived.ChangeKeysEq
import Derived.Maps.RangeRun
import Derived.WideKeyRuns
set_option linter.unusedSimpArgs false
set_option linter.unusedVariables false
namespace Go.Proofs.Ytbanlhlggkdanaa
open Go.RowKit
theorem ent_18 : Enter Try.prog 18 = true := by kernel_rfl
theorem lay_57 : lay1 Try.prog 57 = some [.slice none 0 0, .slice none 0 0, .slice none 0 0, .slice none 0 0] := by kernel_rfl
def newM0 (pts : List (Int × Int)) : MD := ⟨pts, [], [], List.replicate pts.length (-1)⟩
def newM (pts : List (Int × Int)) (a b c : Int) : MD :=
 (((((((((((newM0 pts).make a b c).make c b (-1)).link 0 0 1 2 false).make a c (-1)).link 0 1 2 2 false).make b a (-1)).link 0 2 3 2 false).link 1 1 2 0 false).link 2 1 3 0 false).link 3 1 1 0 false)
theorem ptCells_len : ∀ (l : List (Int × Int)), (ptCells l).length = l.length * 2
 | [] => rfl
 | p :: l => by
  have := ptCells_len l
  simp only [ptCells, List.flatMap_cons, List.length_append, List.length_cons, List.length_nil] at *
  omega
theorem ptCells_one : ∀ (l : List (Int × Int)), (ptCells l).all (·.oneCell') = true
 | [] => rfl
 | p :: l => by
  have := ptCells_one l
  simp only [ptCells, List.flatMap_cons, List.all_append, List.all_cons] at *
  rw [this]
  rfl
theorem Iv_rep (k : Nat) : Iv (List.replicate k (-1)) ++ [Value.int .i64 (-1)] = Iv (List.replicate (k + 1) (-1)) := by
 rw [List.replicate_succ', Iv, Iv, List.map_append]
 rfl
abbrev pA (pts : List (Int × Int)) (a b c : Nat) : Int := A2 (pts.getD a (0, 0)).1 (pts.getD a (0, 0)).2 (pts.getD b (0, 0)).1 (pts.getD b (0, 0)).2 (pts.getD c (0, 0)).1 (pts.getD c (0, 0)).2
set_option maxRecDepth 100000 in
set_option maxHeartbeats 8000000 in
theorem new_bad {A : Option Addr} {pts : List (Int × Int)} {cp a b c : Nat} (hlen : pts.length ≤ 100000) (ha : a < pts.length) (hb : b < pts.length) (hc : c < pts.length) (hP : ∀ j, j < pts.length → P2 (pts.getD j (0, 0)).1 (pts.getD j (0, 0)).2) (hA : pA pts a b c = 0) : Tri Try.prog 18 [.slice A pts.length cp, .int .i64 (a : Int), .int .i64 (b : Int), .int .i64 (c : Int)] [] [sliceR 2 A pts.length (ptCells pts)] (Ret0 (.tuple #[.pointer none, .bool false])) := by
 refine Tri_of (N := 102) Try.func18 rfl ent_18 rfl rfl ?_
 intro w0 S0 T0
 show CJ _ _ _ [(0, _), (1, _), (2, _), (3, _)] _ _
 have hpl := ptCells_len pts
 refine CJ_seq ?_
 refine CJ_reg ?_
 refine LJ_y rfl rfl (YJ_assign rfl) ?_
 refine LJ_y rfl rfl (YJ_assign rfl) ?_
 refine LJ_nil ?_
 refine QJ_then ?_
 refine CJ_seq ?_
 refine CJ_newRow 3 1 ?_
 refine CJ_newRow 3 1 ?_
 refine CJ_newRow 37 9 ?_
 refine CJ_newRow 23 2 ?_
 refine CJ_reg ?_
 refine LJ_y rfl rfl (YJ_move rfl) ?_
 refine LJ_append 0 rfl rfl elt_26 zer_23 rfl rfl rfl rfl (Rd_fact m0 (by omega)) hpl (ptCells_one pts) (by omega) (by omega) (by decide) (List.nil_append _) ?_
 intro AP cP
 show LJ _ _ _ _ _ (_ :: _ :: _ :: _ :: _) _
 refine LJ_y rfl rfl (YJ_build1 (cs := [_, _, _, _]) lay_57 rfl rfl rfl) ?_
 refine LJ_box (cs := #[_, _, _, _]) rfl rfl rfl rfl ?_
 intro b1
 refine LJ_y rfl rfl (YJ_assign rfl) ?_
 refine LJ_nil ?_
 refine QJ_then ?_
 refine CJ_seq ?_
 refine CJ_seq ?_
 refine CJ_reg ?_
 refine LJ_y rfl rfl (YJ_move rfl) ?_
 refine LJ_y rfl rfl (YJ_len rfl ulen_26 rfl) ?_
 refine LJ_y rfl rfl (YJ_move rfl) ?_
 refine LJ_nil ?_
 refine QJ_then ?_
 refine CJ_block ?_
 refine CJ_loopF (F := fun (i : Nat × Option Addr × Nat) => ⟨[(0, .slice A pts.length cp), (1, .int .i64 (a : Int)), (2, .int .i64 (b : Int)), (3, .int .i64 (c : Int)), (10, .pointer (some ⟨b1, 0, none⟩)), (21, .int .i64 pts.length), (22, .int .i64 (i.1 : Nat))], [cellsR b1 #[.slice AP (0 + pts.length) cP, .slice none 0 0, .slice none 0 0, .slice i.2.1 i.1 i.2.2] 57, rowR 3 1 i.2.1 i.1 i.2.2 (Iv (List.replicate i.1 (-1)))], []⟩) (I := fun (i : Nat × Option Addr × Nat) => i.1 ≤ pts.length) (m := fun (i : Nat × Option Addr × Nat) => pts.length - i.1) (0, none, 0) (μr := [_, _, _]) (Nat.zero_le _) (And.intro rfl (And.intro rfl (And.intro rfl (And.intro rfl (And.intro rfl (And.intro rfl (And.intro rfl (trivial)))))))) (permI [0, 3] rfl) (fun _ h => nomatch h) ?_
 rintro ⟨k, A0, cA0⟩ hk
 try dsimp only at hk
 show CJ _ _ _ [(0, .slice A pts.length cp), (1, .int .i64 (a : Int)), (2, .int .i64 (b : Int)), (3, .int .i64 (c : Int)), (10, .pointer (some ⟨b1, 0, none⟩)), (21, .int .i64 pts.length), (22, .int .i64 (k : Nat))] (cellsR b1 #[.slice AP (0 + pts.length) cP, .slice none 0 0, .slice none 0 0, .slice A0 k cA0] 57 :: rowR 3 1 A0 k cA0 (Iv (List.replicate k (-1))) :: _ :: _ :: _ :: _) _
 refine CJ_seq ?_
 refine CJ_reg ?_
 refine LJ_y rfl rfl (YJ_bin rfl rfl rfl) ?_
 refine LJ_nil ?_
 refine QJ_then ?_
 refine CJ_seq ?_
 refine CJ_cond rfl (fun h23 => ?_) (fun h23 => ?_)
 ·simp only [decide_eq_true_eq] at h23
  refine CJ_skip ?_
  refine QJ_then ?_
  refine CJ_seq ?_
  refine CJ_block ?_
  refine CJ_reg ?_
  refine LJ_y rfl rfl (YJ_move rfl) ?_
  refine LJ_y rfl rfl (YJ_move rfl) ?_
  refine LJ_y rfl rfl (YJ_nilCheck rfl) ?_
  refine LJ_y rfl rfl (YJ_fieldOwn rfl fld_57_3 rfl) ?_
  refine LJ_y rfl rfl (YJ_loadL rfl tyi_55 m0 rfl) ?_
  refine LJ_buildSlice (cs := [_]) rfl rfl elt_55 zer_3 rfl (by decide) (pvs := [(_, _)]) rfl rfl rfl ?_
  intro b2
  refine LJ_append 2 rfl rfl elt_55 zer_3 rfl rfl rfl rfl (Rd_own m0) rfl rfl (by omega) (by omega) (by decide) (Iv_rep k) ?_
  intro A30 c30
  show LJ _ _ _ _ _ (_ :: _ :: _ :: _ :: _ :: _ :: _) _
  refine LJ_y rfl rfl (YJ_nilCheck rfl) ?_
  refine LJ_y rfl rfl (YJ_fieldOwn rfl fld_57_3 rfl) ?_
  refine LJ_store (cs' := #[_, _, _, _]) (μ' := [_, _, _, _, _, _]) 1 rfl rfl rfl rfl tyi_55 rfl (Nat.le_of_ble_eq_true rfl) rfl rfl rfl ?_
  refine LJ_nil ?_
  refine QJ_in_normal ?_
  refine QJ_then ?_
  refine CJ_reg ?_
  refine LJ_y rfl rfl (YJ_bin rfl rfl (iop_add (by omega))) ?_
  refine LJ_y rfl rfl (YJ_move rfl) ?_
  refine LJ_nil ?_
  refine QJ_roundF (F := fun (i : Nat × Option Addr × Nat) => ⟨[(0, .slice A pts.length cp), (1, .int .i64 (a : Int)), (2, .int .i64 (b : Int)), (3, .int .i64 (c : Int)), (10, .pointer (some ⟨b1, 0, none⟩)), (21, .int .i64 pts.length), (22, .int .i64 (i.1 : Nat))], [cellsR b1 #[.slice AP (0 + pts.length) cP, .slice none 0 0, .slice none 0 0, .slice i.2.1 i.1 i.2.2] 57, rowR 3 1 i.2.1 i.1 i.2.2 (Iv (List.replicate i.1 (-1)))], []⟩) (I := fun (i : Nat × Option Addr × Nat) => i.1 ≤ pts.length) (m := fun (i : Nat × Option Addr × Nat) => pts.length - i.1) (i := (k, A0, cA0)) ((k + 1, A30, c30)) (μd := [_]) (by dsimp only; omega) (by dsimp only; omega) (And.intro rfl (And.intro rfl (And.intro rfl (And.intro rfl (And.intro rfl (And.intro rfl (And.intro rfl (trivial)))))))) (permI [1, 1, 1, 1, 1] rfl) (fun _ h => nomatch h) (fun _ h => h)
 ·simp only [decide_eq_false_iff_not] at h23
  refine CJ_exit ?_
  refine QJ_then_exit ?_
  refine QJ_then_exit ?_
  refine QJ_in_exit ?_
  refine QJ_then ?_
  refine CJ_seq ?_
  refine CJ_seq ?_
  refine CJ_regD mix (by kernel_rfl) (fun _ _ _ _ _ h => h) _ _ (fun _ h => h) (fun _ h => h) ?_
  refine AJ_y 0 rfl (by kernel_rfl) (by kernel_rfl) rfl rfl (YJ_move rfl) ?_
  refine AJ_y 1 rfl (by kernel_rfl) (by kernel_rfl) rfl rfl (YJ_move rfl) ?_
  refine AJ_y 2 rfl (by kernel_rfl) (by kernel_rfl) rfl rfl (YJ_ixFact rfl rfl elt_26 m0 (by decide) (by omega) (by omega) (by omega)) ?_
  refine AJ_y 3 rfl (by kernel_rfl) (by kernel_rfl) rfl rfl (YJ_loadFactN (vs := [_, _]) (xs := ptCells pts) rfl tyi_23 m0 (ptCells_get (i := a) (by omega)) rfl) ?_
  refine AJ_y 4 rfl (by kernel_rfl) (by kernel_rfl) rfl rfl (YJ_move rfl) ?_
  refine AJ_y 5 rfl (by kernel_rfl) (by kernel_rfl) rfl rfl (YJ_move rfl) ?_
  refine AJ_y 6 rfl (by kernel_rfl) (by kernel_rfl) rfl rfl (YJ_ixFact rfl rfl elt_26 m0 (by decide) (by omega) (by omega) (by omega)) ?_
  refine AJ_y 7 rfl (by kernel_rfl) (by kernel_rfl) rfl rfl (YJ_loadFactN (vs := [_, _]) (xs := ptCells pts) rfl tyi_23 m0 (ptCells_get (i := b) (by omega)) rfl) ?_
  refine AJ_y 8 rfl (by kernel_rfl) (by kernel_rfl) rfl rfl (YJ_move rfl) ?_
  refine AJ_y 9 rfl (by kernel_rfl) (by kernel_rfl) rfl rfl (YJ_move rfl) ?_
  refine AJ_y 10 rfl (by kernel_rfl) (by kernel_rfl) rfl rfl (YJ_ixFact rfl rfl elt_26 m0 (by decide) (by omega) (by omega) (by omega)) ?_
  refine AJ_y 11 rfl (by kernel_rfl) (by kernel_rfl) rfl rfl (YJ_loadFactN (vs := [_, _]) (xs := ptCells pts) rfl tyi_23 m0 (ptCells_get (i := c) (by omega)) rfl) ?_
  refine AJ_call0 12 rfl (by kernel_rfl) rfl rfl rfl rfl rfl (orient_c (hP a ha) (hP b hb) (hP c hc)) (AllIn.sub (by first | exact trivial | exact And.intro (by repeat first | exact .head _ | apply List.Mem.tail) trivial | exact And.intro (by repeat first | exact .head _ | apply List.Mem.tail) (And.intro (by repeat first | exact .head _ | apply List.Mem.tail) trivial))) ?_
  refine AJ_done (by kernel_rfl) ?_
  refine QJ_then ?_
  refine CJ_block ?_
  refine CJ_seq ?_
  refine CJ_reg ?_
  refine LJ_y rfl rfl (YJ_bin rfl rfl rfl) ?_
  refine LJ_y rfl rfl (YJ_assign rfl) ?_
  refine LJ_nil ?_
  refine QJ_then ?_
  refine CJ_condT2 rfl (decide_eq_true (sgn_zero.2 hA)) ?_
  refine CJ_seq ?_
  refine CJ_reg ?_
  refine LJ_y rfl rfl (YJ_assign rfl) ?_
  refine LJ_y rfl rfl (YJ_assign rfl) ?_
  refine LJ_nil ?_
  refine QJ_then ?_
  refine CJ_ret ?_
  refine QJ_in_ret ?_
  refine QJ_then_ret ?_
  refine QJ_fin (.inl rfl) (μ' := []) (μr := _) (φ' := []) (res_tmp2 rfl rfl rfl) (List.Perm.refl _) (fun _ h => nomatch h) ?_
  exact ⟨rfl, rfl, rfl⟩
set_option maxRecDepth 100000 in
set_option maxHeartbeats 8000000 in
theorem new_pos {A : Option Addr} {pts : List (Int × Int)} {cp a b c : Nat} (hlen : pts.length ≤ 100000) (ha : a < pts.length) (hb : b < pts.length) (hc : c < pts.length) (hP : ∀ j, j < pts.length → P2 (pts.getD j (0, 0)).1 (pts.getD j (0, 0)).2) (hA : 0 < pA pts a b c) : Tri Try.prog 18 [.slice A pts.length cp, .int .i64 (a : Int), .int .i64 (b : Int), .int .i64 (c : Int)] [] [sliceR 2 A pts.length (ptCells pts)] (RetL (fun _ : Nat => True) (fun B => .tuple #[.pointer (some ⟨B, 0, none⟩), .bool true]) (fun B => meshR B (newM pts a b c)) (fun _ => [])) := by
 refine Tri_of (N := 102) Try.func18 rfl ent_18 rfl rfl ?_
 intro w0 S0 T0
 show CJ _ _ _ [(0, _), (1, _), (2, _), (3, _)] _ _
 have hpl := ptCells_len pts
 have hs0 : ¬ sgn (pA pts a b c) = 0 := by have := sgn_cases (pA pts a b c); omega
 have hs1 : ¬ sgn (pA pts a b c) = -1 := by have := sgn_cases (pA pts a b c); omega
 refine CJ_seq ?_
 refine CJ_reg ?_
 refine LJ_y rfl rfl (YJ_assign rfl) ?_
 refine LJ_y rfl rfl (YJ_assign rfl) ?_
 refine LJ_nil ?_
 refine QJ_then ?_
 refine CJ_seq ?_
 refine CJ_newRow 3 1 ?_
 refine CJ_newRow 3 1 ?_
 refine CJ_newRow 37 9 ?_
 refine CJ_newRow 23 2 ?_
 refine CJ_reg ?_
 refine LJ_y rfl rfl (YJ_move rfl) ?_
 refine LJ_append 0 rfl rfl elt_26 zer_23 rfl rfl rfl rfl (Rd_fact m0 (by omega)) hpl (ptCells_one pts) (by omega) (by omega) (by decide) (List.nil_append _) ?_
 intro AP cP
 show LJ _ _ _ _ _ (_ :: _ :: _ :: _ :: _) _
 refine LJ_y rfl rfl (YJ_build1 (cs := [_, _, _, _]) lay_57 rfl rfl rfl) ?_
 refine LJ_box (cs := #[_, _, _, _]) rfl rfl rfl rfl ?_
 intro b1
 refine LJ_y rfl rfl (YJ_assign rfl) ?_
 refine LJ_nil ?_
 refine QJ_then ?_
 refine CJ_seq ?_
 refine CJ_seq ?_
 refine CJ_reg ?_
 refine LJ_y rfl rfl (YJ_move rfl) ?_
 refine LJ_y rfl rfl (YJ_len rfl ulen_26 rfl) ?_
 refine LJ_y rfl rfl (YJ_move rfl) ?_
 refine LJ_nil ?_
 refine QJ_then ?_
 refine CJ_block ?_
 refine CJ_loopF (F := fun (i : Nat × Option Addr × Nat) => ⟨[(0, .slice A pts.length cp), (1, .int .i64 (a : Int)), (2, .int .i64 (b : Int)), (3, .int .i64 (c : Int)), (10, .pointer (some ⟨b1, 0, none⟩)), (21, .int .i64 pts.length), (22, .int .i64 (i.1 : Nat))], [cellsR b1 #[.slice AP (0 + pts.length) cP, .slice none 0 0, .slice none 0 0, .slice i.2.1 i.1 i.2.2] 57, rowR 3 1 i.2.1 i.1 i.2.2 (Iv (List.replicate i.1 (-1)))], []⟩) (I := fun (i : Nat × Option Addr × Nat) => i.1 ≤ pts.length) (m := fun (i : Nat × Option Addr × Nat) => pts.length - i.1) (0, none, 0) (μr := [_, _, _]) (Nat.zero_le _) (And.intro rfl (And.intro rfl (And.intro rfl (And.intro rfl (And.intro rfl (And.intro rfl (And.intro rfl (trivial)))))))) (permI [0, 3] rfl) (fun _ h => nomatch h) ?_
 rintro ⟨k, A0, cA0⟩ hk
 try dsimp only at hk
 show CJ _ _ _ [(0, .slice A pts.length cp), (1, .int .i64 (a : Int)), (2, .int .i64 (b : Int)), (3, .int .i64 (c : Int)), (10, .pointer (some ⟨b1, 0, none⟩)), (21, .int .i64 pts.length), (22, .int .i64 (k : Nat))] (cellsR b1 #[.slice AP (0 + pts.length) cP, .slice none 0 0, .slice none 0 0, .slice A0 k cA0] 57 :: rowR 3 1 A0 k cA0 (Iv (List.replicate k (-1))) :: _ :: _ :: _ :: _) _
 refine CJ_seq ?_
 refine CJ_reg ?_
 refine LJ_y rfl rfl (YJ_bin rfl rfl rfl) ?_
 refine LJ_nil ?_
 refine QJ_then ?_
 refine CJ_seq ?_
 refine CJ_cond rfl (fun h23 => ?_) (fun h23 => ?_)
 ·simp only [decide_eq_true_eq] at h23
  refine CJ_skip ?_
  refine QJ_then ?_
  refine CJ_seq ?_
  refine CJ_block ?_
  refine CJ_reg ?_
  refine LJ_y rfl rfl (YJ_move rfl) ?_
  refine LJ_y rfl rfl (YJ_move rfl) ?_
  refine LJ_y rfl rfl (YJ_nilCheck rfl) ?_
  refine LJ_y rfl rfl (YJ_fieldOwn rfl fld_57_3 rfl) ?_
  refine LJ_y rfl rfl (YJ_loadL rfl tyi_55 m0 rfl) ?_
  refine LJ_buildSlice (cs := [_]) rfl rfl elt_55 zer_3 rfl (by decide) (pvs := [(_, _)]) rfl rfl rfl ?_
  intro b2
  refine LJ_append 2 rfl rfl elt_55 zer_3 rfl rfl rfl rfl (Rd_own m0) rfl rfl (by omega) (by omega) (by decide) (Iv_rep k) ?_
  intro A30 c30
  show LJ _ _ _ _ _ (_ :: _ :: _ :: _ :: _ :: _ :: _) _
  refine LJ_y rfl rfl (YJ_nilCheck rfl) ?_
  refine LJ_y rfl rfl (YJ_fieldOwn rfl fld_57_3 rfl) ?_
  refine LJ_store (cs' := #[_, _, _, _]) (μ' := [_, _, _, _, _, _]) 1 rfl rfl rfl rfl tyi_55 rfl (Nat.le_of_ble_eq_true rfl) rfl rfl rfl ?_
  refine LJ_nil ?_
  refine QJ_in_normal ?_
  refine QJ_then ?_
  refine CJ_reg ?_
  refine LJ_y rfl rfl (YJ_bin rfl rfl (iop_add (by omega))) ?_
  refine LJ_y rfl rfl (YJ_move rfl) ?_
  refine LJ_nil ?_
  refine QJ_roundF (F := fun (i : Nat × Option Addr × Nat) => ⟨[(0, .slice A pts.length cp), (1, .int .i64 (a : Int)), (2, .int .i64 (b : Int)), (3, .int .i64 (c : Int)), (10, .pointer (some ⟨b1, 0, none⟩)), (21, .int .i64 pts.length), (22, .int .i64 (i.1 : Nat))], [cellsR b1 #[.slice AP (0 + pts.length) cP, .slice none 0 0, .slice none 0 0, .slice i.2.1 i.1 i.2.2] 57, rowR 3 1 i.2.1 i.1 i.2.2 (Iv (List.replicate i.1 (-1)))], []⟩) (I := fun (i : Nat × Option Addr × Nat) => i.1 ≤ pts.length) (m := fun (i : Nat × Option Addr × Nat) => pts.length - i.1) (i := (k, A0, cA0)) ((k + 1, A30, c30)) (μd := [_]) (by dsimp only; omega) (by dsimp only; omega) (And.intro rfl (And.intro rfl (And.intro rfl (And.intro rfl (And.intro rfl (And.intro rfl (And.intro rfl (trivial)))))))) (permI [1, 1, 1, 1, 1] rfl) (fun _ h => nomatch h) (fun _ h => h)
 ·simp only [decide_eq_false_iff_not] at h23
  refine CJ_exit ?_
  refine QJ_then_exit ?_
  refine QJ_then_exit ?_
  refine QJ_in_exit ?_
  refine QJ_then ?_
  refine CJ_seq ?_
  refine CJ_seq ?_
  refine CJ_regD mix (by kernel_rfl) (fun _ _ _ _ _ h => h) _ _ (fun _ h => h) (fun _ h => h) ?_
  refine AJ_y 0 rfl (by kernel_rfl) (by kernel_rfl) rfl rfl (YJ_move rfl) ?_
  refine AJ_y 1 rfl (by kernel_rfl) (by kernel_rfl) rfl rfl (YJ_move rfl) ?_
  refine AJ_y 2 rfl (by kernel_rfl) (by kernel_rfl) rfl rfl (YJ_ixFact rfl rfl elt_26 m0 (by decide) (by omega) (by omega) (by omega)) ?_
  refine AJ_y 3 rfl (by kernel_rfl) (by kernel_rfl) rfl rfl (YJ_loadFactN (vs := [_, _]) (xs := ptCells pts) rfl tyi_23 m0 (ptCells_get (i := a) (by omega)) rfl) ?_
  refine AJ_y 4 rfl (by kernel_rfl) (by kernel_rfl) rfl rfl (YJ_move rfl) ?_
  refine AJ_y 5 rfl (by kernel_rfl) (by kernel_rfl) rfl rfl (YJ_move rfl) ?_
  refine AJ_y 6 rfl (by kernel_rfl) (by kernel_rfl) rfl rfl (YJ_ixFact rfl rfl elt_26 m0 (by decide) (by omega) (by omega) (by omega)) ?_
  refine AJ_y 7 rfl (by kernel_rfl) (by kernel_rfl) rfl rfl (YJ_loadFactN (vs := [_, _]) (xs := ptCells pts) rfl tyi_23 m0 (ptCells_get (i := b) (by omega)) rfl) ?_
  refine AJ_y 8 rfl (by kernel_rfl) (by kernel_rfl) rfl rfl (YJ_move rfl) ?_
  refine AJ_y 9 rfl (by kernel_rfl) (by kernel_rfl) rfl rfl (YJ_move rfl) ?_
  refine AJ_y 10 rfl (by kernel_rfl) (by kernel_rfl) rfl rfl (YJ_ixFact rfl rfl elt_26 m0 (by decide) (by omega) (by omega) (by omega)) ?_
  refine AJ_y 11 rfl (by kernel_rfl) (by kernel_rfl) rfl rfl (YJ_loadFactN (vs := [_, _]) (xs := ptCells pts) rfl tyi_23 m0 (ptCells_get (i := c) (by omega)) rfl) ?_
  refine AJ_call0 12 rfl (by kernel_rfl) rfl rfl rfl rfl rfl (orient_c (hP a ha) (hP b hb) (hP c hc)) (AllIn.sub (by first | exact trivial | exact And.intro (by repeat first | exact .head _ | apply List.Mem.tail) trivial | exact And.intro (by repeat first | exact .head _ | apply List.Mem.tail) (And.intro (by repeat first | exact .head _ | apply List.Mem.tail) trivial))) ?_
  refine AJ_done (by kernel_rfl) ?_
  refine QJ_then ?_
  refine CJ_block ?_
  refine CJ_seq ?_
  refine CJ_reg ?_
  refine LJ_y rfl rfl (YJ_bin rfl rfl rfl) ?_
  refine LJ_y rfl rfl (YJ_assign rfl) ?_
  refine LJ_nil ?_
  refine QJ_then ?_
  refine CJ_condF2 rfl (decide_eq_false hs0) ?_
  refine CJ_seq ?_
  refine CJ_reg ?_
  refine LJ_y rfl rfl (YJ_bin rfl rfl rfl) ?_
  refine LJ_y rfl rfl (YJ_assign rfl) ?_
  refine LJ_nil ?_
  refine QJ_then ?_
  refine CJ_condF2 rfl (decide_eq_false hs1) ?_
  refine CJ_skip ?_
  refine QJ_in_normal ?_
  refine QJ_then ?_
  refine CJ_seq ?_
  refine CJ_closeMesh (newM0 pts) (μr := []) (permI [0, 1, 1, 1] rfl) ⟨by simp [newM0], rfl⟩ ⟨rfl, rfl⟩ ⟨rfl, rfl⟩ ⟨by simp [newM0]; omega, by simp only [newM0]; rw [show k = pts.length by omega]⟩ ?_
  refine CJ_reg ?_
  refine LJ_y rfl rfl (YJ_move rfl) ?_
  refine LJ_y rfl rfl (YJ_move rfl) ?_
  refine LJ_y rfl rfl (YJ_move rfl) ?_
  refine LJ_y rfl rfl (YJ_move rfl) ?_
  refine LJ_call1 0 rfl rfl rfl rfl rfl rfl (make_c (a := (a : Int)) (b := (b : Int)) (c := (c : Int)) (by simp [newM0, MD.make, MD.link]; try omega) (by simp [newM0, MD.make, MD.link]; try omega) (by simp [newM0, MD.make, MD.link]; try omega) (by simp [newM0, MD.make, MD.link, setAt_len]; try omega) (by simp [newM0, MD.make, MD.link, setAt_len]; try omega) (by simp [newM0, MD.make, MD.link, setAt_len]; try omega) (by simp [newM0, MD.make, MD.link, setAt_len]; try omega)) (fun _ h => nomatch h) ?_
  show LJ _ _ _ _ _ (_ :: _) _
  refine LJ_val (v := .int .i64 0) (rfl) ?_
  refine LJ_y rfl rfl (YJ_assign rfl) ?_
  refine LJ_nil ?_
  refine QJ_then ?_
  refine CJ_seq ?_
  refine CJ_reg ?_
  refine LJ_y rfl rfl (YJ_move rfl) ?_
  refine LJ_y rfl rfl (YJ_move rfl) ?_
  refine LJ_y rfl rfl (YJ_move rfl) ?_
  refine LJ_y rfl rfl (YJ_build1 (cs := [_, _, _]) lay_34 rfl rfl rfl) ?_
  refine LJ_alloc (cs := #[_, _, _]) rfl rfl zer_34 rfl ?_
  intro b3
  refine LJ_store (cs' := #[_, _, _]) (μ' := [_, _]) 0 rfl rfl rfl rfl tyi_34 rfl (Nat.le_of_ble_eq_true rfl) rfl rfl rfl ?_
  refine LJ_nil ?_
  refine QJ_then ?_
  refine CJ_seq ?_
  refine CJ_reg ?_
  refine LJ_alloc (cs := #[_, _, _]) rfl rfl zer_34 rfl ?_
  intro b4
  refine LJ_nil ?_
  refine QJ_then ?_
  refine CJ_seq ?_
  refine CJ_seq ?_
  refine CJ_reg ?_
  refine LJ_y rfl rfl (YJ_move rfl) ?_
  refine LJ_nil ?_
  refine QJ_then ?_
  refine CJ_block ?_
  refine CJ_loopN 4 ?_
  refine CN_succ ?_
  refine CJ_seq ?_
  refine CJ_reg ?_
  refine LJ_y rfl rfl (YJ_bin rfl rfl rfl) ?_
  refine LJ_nil ?_
  refine QJ_then ?_
  refine CJ_seq ?_
  refine CJ_condT rfl ?_
  refine CJ_skip ?_
  refine QJ_then ?_
  refine CJ_seq ?_
  refine CJ_block ?_
  refine CJ_seq ?_
  refine CJ_reg ?_
  refine LJ_y rfl rfl (YJ_move rfl) ?_
  refine LJ_y rfl rfl (YJ_assign rfl) ?_
  refine LJ_nil ?_
  refine QJ_then ?_
  refine CJ_seq ?_
  refine CJ_regD mix (by kernel_rfl) (fun _ _ _ _ _ h => h) (selR [1] _) _ (selR_sub _ _) (fun _ h => h) ?_
  refine AJ_y 0 rfl (by kernel_rfl) (by kernel_rfl) rfl rfl (YJ_move rfl) ?_
  refine AJ_y 1 rfl (by kernel_rfl) (by kernel_rfl) rfl rfl (YJ_move rfl) ?_
  refine AJ_y 2 rfl (by kernel_rfl) (by kernel_rfl) rfl rfl (YJ_move rfl) ?_
  refine AJ_y 3 rfl (by kernel_rfl) (by kernel_rfl) rfl rfl (YJ_bin rfl rfl (iop_add (by omega))) ?_
  refine AJ_y 4 rfl (by kernel_rfl) (by kernel_rfl) rfl rfl (YJ_rem rfl rfl (by first | decide | omega)) ?_
  refine AJ_val (v := .int .i64 2) (rfl) ?_
  refine AJ_y 5 rfl (by kernel_rfl) (by kernel_rfl) rfl rfl (YJ_ixArr rfl rfl arrt_34 (by omega) (by omega) rfl) ?_
  refine AJ_y 6 rfl (by kernel_rfl) (by kernel_rfl) rfl rfl (YJ_loadL rfl tyi_3 m0 rfl) ?_
  refine AJ_y 7 rfl (by kernel_rfl) (by kernel_rfl) rfl rfl (YJ_move rfl) ?_
  refine AJ_y 8 rfl (by kernel_rfl) (by kernel_rfl) rfl rfl (YJ_bin rfl rfl (iop_add (by omega))) ?_
  refine AJ_y 9 rfl (by kernel_rfl) (by kernel_rfl) rfl rfl (YJ_rem rfl rfl (by first | decide | omega)) ?_
  refine AJ_val (v := .int .i64 1) (rfl) ?_
  refine AJ_y 10 rfl (by kernel_rfl) (by kernel_rfl) rfl rfl (YJ_ixArr rfl rfl arrt_34 (by omega) (by omega) rfl) ?_
  refine AJ_y 11 rfl (by kernel_rfl) (by kernel_rfl) rfl rfl (YJ_loadL rfl tyi_3 m0 rfl) ?_
  refine AJ_call1 12 2 rfl (by kernel_rfl) rfl rfl rfl rfl rfl rfl (make_c (a := (c : Int)) (b := (b : Int)) (c := (-1)) (by simp [newM0, MD.make, MD.link]; try omega) (by simp [newM0, MD.make, MD.link]; try omega) (by simp [newM0, MD.make, MD.link]; try omega) (by simp [newM0, MD.make, MD.link, setAt_len]; try omega) (by simp [newM0, MD.make, MD.link, setAt_len]; try omega) (by simp [newM0, MD.make, MD.link, setAt_len]; try omega) (by simp [newM0, MD.make, MD.link, setAt_len]; try omega)) (fun _ h => nomatch h) (AllIn.sub (And.intro m1 (trivial))) ?_
  show AJ _ _ _ _ _ _ _ _ (_ :: _ :: _ :: _) _
  refine AJ_val (v := .int .i64 1) (rfl) ?_
  refine AJ_y 13 rfl (by kernel_rfl) (by kernel_rfl) rfl rfl (YJ_ixArr rfl rfl arrt_34 (by omega) (by omega) rfl) ?_
  refine AJ_store (cs' := #[_, _, _]) (μ' := [_, _, _]) 14 0 rfl (by kernel_rfl) rfl rfl rfl rfl tyi_3 rfl (Nat.le_of_ble_eq_true rfl) rfl rfl rfl (fun _ => AllIn.sub (And.intro m1 (trivial))) ?_
  refine AJ_done (by kernel_rfl) ?_
  refine QJ_then ?_
  refine CJ_reg ?_
  refine LJ_y rfl rfl (YJ_move rfl) ?_
  refine LJ_y rfl rfl (YJ_move rfl) ?_
  refine LJ_y rfl rfl (YJ_move rfl) ?_
  refine LJ_y rfl rfl (YJ_move rfl) ?_
  refine LJ_y rfl rfl (YJ_ixArr rfl rfl arrt_34 (by omega) (by omega) rfl) ?_
  refine LJ_y rfl rfl (YJ_loadL rfl tyi_3 m0 rfl) ?_
  refine LJ_call1 2 rfl rfl rfl rfl rfl rfl (link_c (t := 0) (i := 0) (u := 1) (j := 2) (f := false) (by simp [newM0, MD.make, MD.link]; try omega) (by simp [newM0, MD.make, MD.link]; try omega) (by decide) (by decide)) (fun _ h => nomatch h) ?_
  show LJ _ _ _ _ _ (_ :: _ :: _ :: _) _
  refine LJ_nil ?_
  refine QJ_in_normal ?_
  refine QJ_then ?_
  refine CJ_reg ?_
  refine LJ_y rfl rfl (YJ_bin rfl rfl (iop_add (by omega))) ?_
  refine LJ_y rfl rfl (YJ_move rfl) ?_
  refine LJ_nil ?_
  refine QJ_thenN ?_
  refine CN_succ ?_
  refine CJ_seq ?_
  refine CJ_reg ?_
  refine LJ_y rfl rfl (YJ_bin rfl rfl rfl) ?_
  refine LJ_nil ?_
  refine QJ_then ?_
  refine CJ_seq ?_
  refine CJ_condT rfl ?_
  refine CJ_skip ?_
  refine QJ_then ?_
  refine CJ_seq ?_
  refine CJ_block ?_
  refine CJ_seq ?_
  refine CJ_reg ?_
  refine LJ_y rfl rfl (YJ_move rfl) ?_
  refine LJ_y rfl rfl (YJ_assign rfl) ?_
  refine LJ_nil ?_
  refine QJ_then ?_
  refine CJ_seq ?_
  refine CJ_regD mix (by kernel_rfl) (fun _ _ _ _ _ h => h) (selR [1] _) _ (selR_sub _ _) (fun _ h => h) ?_
  refine AJ_y 0 rfl (by kernel_rfl) (by kernel_rfl) rfl rfl (YJ_move rfl) ?_
  refine AJ_y 1 rfl (by kernel_rfl) (by kernel_rfl) rfl rfl (YJ_move rfl) ?_
  refine AJ_y 2 rfl (by kernel_rfl) (by kernel_rfl) rfl rfl (YJ_move rfl) ?_
  refine AJ_y 3 rfl (by kernel_rfl) (by kernel_rfl) rfl rfl (YJ_bin rfl rfl (iop_add (by omega))) ?_
  refine AJ_y 4 rfl (by kernel_rfl) (by kernel_rfl) rfl rfl (YJ_rem rfl rfl (by first | decide | omega)) ?_
  refine AJ_val (v := .int .i64 0) (rfl) ?_
  refine AJ_y 5 rfl (by kernel_rfl) (by kernel_rfl) rfl rfl (YJ_ixArr rfl rfl arrt_34 (by omega) (by omega) rfl) ?_
  refine AJ_y 6 rfl (by kernel_rfl) (by kernel_rfl) rfl rfl (YJ_loadL rfl tyi_3 m0 rfl) ?_
  refine AJ_y 7 rfl (by kernel_rfl) (by kernel_rfl) rfl rfl (YJ_move rfl) ?_
  refine AJ_y 8 rfl (by kernel_rfl) (by kernel_rfl) rfl rfl (YJ_bin rfl rfl (iop_add (by omega))) ?_
  refine AJ_y 9 rfl (by kernel_rfl) (by kernel_rfl) rfl rfl (YJ_rem rfl rfl (by first | decide | omega)) ?_
  refine AJ_val (v := .int .i64 2) (rfl) ?_
  refine AJ_y 10 rfl (by kernel_rfl) (by kernel_rfl) rfl rfl (YJ_ixArr rfl rfl arrt_34 (by omega) (by omega) rfl) ?_
  refine AJ_y 11 rfl (by kernel_rfl) (by kernel_rfl) rfl rfl (YJ_loadL rfl tyi_3 m0 rfl) ?_
  refine AJ_call1 12 2 rfl (by kernel_rfl) rfl rfl rfl rfl rfl rfl (make_c (a := (a : Int)) (b := (c : Int)) (c := (-1)) (by simp [newM0, MD.make, MD.link]; try omega) (by simp [newM0, MD.make, MD.link]; try omega) (by simp [newM0, MD.make, MD.link]; try omega) (by simp [newM0, MD.make, MD.link, setAt_len]; try omega) (by simp [newM0, MD.make, MD.link, setAt_len]; try omega) (by simp [newM0, MD.make, MD.link, setAt_len]; try omega) (by simp [newM0, MD.make, MD.link, setAt_len]; try omega)) (fun _ h => nomatch h) (AllIn.sub (And.intro m1 (trivial))) ?_
  show AJ _ _ _ _ _ _ _ _ (_ :: _ :: _ :: _) _
  refine AJ_val (v := .int .i64 2) (rfl) ?_
  refine AJ_y 13 rfl (by kernel_rfl) (by kernel_rfl) rfl rfl (YJ_ixArr rfl rfl arrt_34 (by omega) (by omega) rfl) ?_
  refine AJ_store (cs' := #[_, _, _]) (μ' := [_, _, _]) 14 0 rfl (by kernel_rfl) rfl rfl rfl rfl tyi_3 rfl (Nat.le_of_ble_eq_true rfl) rfl rfl rfl (fun _ => AllIn.sub (And.intro m1 (trivial))) ?_
  refine AJ_done (by kernel_rfl) ?_
  refine QJ_then ?_
  refine CJ_reg ?_
  refine LJ_y rfl rfl (YJ_move rfl) ?_
  refine LJ_y rfl rfl (YJ_move rfl) ?_
  refine LJ_y rfl rfl (YJ_move rfl) ?_
  refine LJ_y rfl rfl (YJ_move rfl) ?_
  refine LJ_y rfl rfl (YJ_ixArr rfl rfl arrt_34 (by omega) (by omega) rfl) ?_
  refine LJ_y rfl rfl (YJ_loadL rfl tyi_3 m0 rfl) ?_
  refine LJ_call1 2 rfl rfl rfl rfl rfl rfl (link_c (t := 0) (i := 1) (u := 2) (j := 2) (f := false) (by simp [newM0, MD.make, MD.link]; try omega) (by simp [newM0, MD.make, MD.link]; try omega) (by decide) (by decide)) (fun _ h => nomatch h) ?_
  show LJ _ _ _ _ _ (_ :: _ :: _ :: _) _
  refine LJ_nil ?_
  refine QJ_in_normal ?_
  refine QJ_then ?_
  refine CJ_reg ?_
  refine LJ_y rfl rfl (YJ_bin rfl rfl (iop_add (by omega))) ?_
  refine LJ_y rfl rfl (YJ_move rfl) ?_
  refine LJ_nil ?_
  refine QJ_thenN ?_
  refine CN_succ ?_
  refine CJ_seq ?_
  refine CJ_reg ?_
  refine LJ_y rfl rfl (YJ_bin rfl rfl rfl) ?_
  refine LJ_nil ?_
  refine QJ_then ?_
  refine CJ_seq ?_
  refine CJ_condT rfl ?_
  refine CJ_skip ?_
  refine QJ_then ?_
  refine CJ_seq ?_
  refine CJ_block ?_
  refine CJ_seq ?_
  refine CJ_reg ?_
  refine LJ_y rfl rfl (YJ_move rfl) ?_
  refine LJ_y rfl rfl (YJ_assign rfl) ?_
  refine LJ_nil ?_
  refine QJ_then ?_
  refine CJ_seq ?_
  refine CJ_regD mix (by kernel_rfl) (fun _ _ _ _ _ h => h) (selR [1] _) _ (selR_sub _ _) (fun _ h => h) ?_
  refine AJ_y 0 rfl (by kernel_rfl) (by kernel_rfl) rfl rfl (YJ_move rfl) ?_
  refine AJ_y 1 rfl (by kernel_rfl) (by kernel_rfl) rfl rfl (YJ_move rfl) ?_
  refine AJ_y 2 rfl (by kernel_rfl) (by kernel_rfl) rfl rfl (YJ_move rfl) ?_
  refine AJ_y 3 rfl (by kernel_rfl) (by kernel_rfl) rfl rfl (YJ_bin rfl rfl (iop_add (by omega))) ?_
  refine AJ_y 4 rfl (by kernel_rfl) (by kernel_rfl) rfl rfl (YJ_rem rfl rfl (by first | decide | omega)) ?_
  refine AJ_val (v := .int .i64 1) (rfl) ?_
  refine AJ_y 5 rfl (by kernel_rfl) (by kernel_rfl) rfl rfl (YJ_ixArr rfl rfl arrt_34 (by omega) (by omega) rfl) ?_
  refine AJ_y 6 rfl (by kernel_rfl) (by kernel_rfl) rfl rfl (YJ_loadL rfl tyi_3 m0 rfl) ?_
  refine AJ_y 7 rfl (by kernel_rfl) (by kernel_rfl) rfl rfl (YJ_move rfl) ?_
  refine AJ_y 8 rfl (by kernel_rfl) (by kernel_rfl) rfl rfl (YJ_bin rfl rfl (iop_add (by omega))) ?_
  refine AJ_y 9 rfl (by kernel_rfl) (by kernel_rfl) rfl rfl (YJ_rem rfl rfl (by first | decide | omega)) ?_
  refine AJ_val (v := .int .i64 0) (rfl) ?_
  refine AJ_y 10 rfl (by kernel_rfl) (by kernel_rfl) rfl rfl (YJ_ixArr rfl rfl arrt_34 (by omega) (by omega) rfl) ?_
  refine AJ_y 11 rfl (by kernel_rfl) (by kernel_rfl) rfl rfl (YJ_loadL rfl tyi_3 m0 rfl) ?_
  refine AJ_call1 12 2 rfl (by kernel_rfl) rfl rfl rfl rfl rfl rfl (make_c (a := (b : Int)) (b := (a : Int)) (c := (-1)) (by simp [newM0, MD.make, MD.link]; try omega) (by simp [newM0, MD.make, MD.link]; try omega) (by simp [newM0, MD.make, MD.link]; try omega) (by simp [newM0, MD.make, MD.link, setAt_len]; try omega) (by simp [newM0, MD.make, MD.link, setAt_len]; try omega) (by simp [newM0, MD.make, MD.link, setAt_len]; try omega) (by simp [newM0, MD.make, MD.link, setAt_len]; try omega)) (fun _ h => nomatch h) (AllIn.sub (And.intro m1 (trivial))) ?_
  show AJ _ _ _ _ _ _ _ _ (_ :: _ :: _ :: _) _
  refine AJ_val (v := .int .i64 3) (rfl) ?_
  refine AJ_y 13 rfl (by kernel_rfl) (by kernel_rfl) rfl rfl (YJ_ixArr rfl rfl arrt_34 (by omega) (by omega) rfl) ?_
  refine AJ_store (cs' := #[_, _, _]) (μ' := [_, _, _]) 14 0 rfl (by kernel_rfl) rfl rfl rfl rfl tyi_3 rfl (Nat.le_of_ble_eq_true rfl) rfl rfl rfl (fun _ => AllIn.sub (And.intro m1 (trivial))) ?_
  refine AJ_done (by kernel_rfl) ?_
  refine QJ_then ?_
  refine CJ_reg ?_
  refine LJ_y rfl rfl (YJ_move rfl) ?_
  refine LJ_y rfl rfl (YJ_move rfl) ?_
  refine LJ_y rfl rfl (YJ_move rfl) ?_
  refine LJ_y rfl rfl (YJ_move rfl) ?_
  refine LJ_y rfl rfl (YJ_ixArr rfl rfl arrt_34 (by omega) (by omega) rfl) ?_
  refine LJ_y rfl rfl (YJ_loadL rfl tyi_3 m0 rfl) ?_
  refine LJ_call1 2 rfl rfl rfl rfl rfl rfl (link_c (t := 0) (i := 2) (u := 3) (j := 2) (f := false) (by simp [newM0, MD.make, MD.link]; try omega) (by simp [newM0, MD.make, MD.link]; try omega) (by decide) (by decide)) (fun _ h => nomatch h) ?_
  show LJ _ _ _ _ _ (_ :: _ :: _ :: _) _
  refine LJ_nil ?_
  refine QJ_in_normal ?_
  refine QJ_then ?_
  refine CJ_reg ?_
  refine LJ_y rfl rfl (YJ_bin rfl rfl (iop_add (by omega))) ?_
  refine LJ_y rfl rfl (YJ_move rfl) ?_
  refine LJ_nil ?_
  refine QJ_thenN ?_
  refine CN_succ ?_
  refine CJ_seq ?_
  refine CJ_reg ?_
  refine LJ_y rfl rfl (YJ_bin rfl rfl rfl) ?_
  refine LJ_nil ?_
  refine QJ_then ?_
  refine CJ_seq ?_
  refine CJ_condF rfl ?_
  refine CJ_exit ?_
  refine QJ_then_exit ?_
  refine QJ_then_exit ?_
  refine QJ_in_exit ?_
  refine QJ_then ?_
  refine CJ_seq ?_
  refine CJ_seq ?_
  refine CJ_reg ?_
  refine LJ_y rfl rfl (YJ_move rfl) ?_
  refine LJ_nil ?_
  refine QJ_then ?_
  refine CJ_block ?_
  refine CJ_loopN 4 ?_
  refine CN_succ ?_
  refine CJ_seq ?_
  refine CJ_reg ?_
  refine LJ_y rfl rfl (YJ_bin rfl rfl rfl) ?_
  refine LJ_nil ?_
  refine QJ_then ?_
  refine CJ_seq ?_
  refine CJ_condT rfl ?_
  refine CJ_skip ?_
  refine QJ_then ?_
  refine CJ_seq ?_
  refine CJ_block ?_
  refine CJ_seq ?_
  refine CJ_reg ?_
  refine LJ_y rfl rfl (YJ_move rfl) ?_
  refine LJ_y rfl rfl (YJ_assign rfl) ?_
  refine LJ_nil ?_
  refine QJ_then ?_
  refine CJ_regD mix (by kernel_rfl) (fun _ _ _ _ _ h => h) (selR [0, 1] _) _ (selR_sub _ _) (fun _ h => h) ?_
  refine AJ_y 0 rfl (by kernel_rfl) (by kernel_rfl) rfl rfl (YJ_move rfl) ?_
  refine AJ_y 1 rfl (by kernel_rfl) (by kernel_rfl) rfl rfl (YJ_move rfl) ?_
  refine AJ_y 2 rfl (by kernel_rfl) (by kernel_rfl) rfl rfl (YJ_ixArr rfl rfl arrt_34 (by omega) (by omega) rfl) ?_
  refine AJ_y 3 rfl (by kernel_rfl) (by kernel_rfl) rfl rfl (YJ_loadL rfl tyi_3 m0 rfl) ?_
  refine AJ_y 4 rfl (by kernel_rfl) (by kernel_rfl) rfl rfl (YJ_move rfl) ?_
  refine AJ_y 5 rfl (by kernel_rfl) (by kernel_rfl) rfl rfl (YJ_bin rfl rfl (iop_add (by omega))) ?_
  refine AJ_y 6 rfl (by kernel_rfl) (by kernel_rfl) rfl rfl (YJ_rem rfl rfl (by first | decide | omega)) ?_
  refine AJ_val (v := .int .i64 1) (rfl) ?_
  refine AJ_y 7 rfl (by kernel_rfl) (by kernel_rfl) rfl rfl (YJ_ixArr rfl rfl arrt_34 (by omega) (by omega) rfl) ?_
  refine AJ_y 8 rfl (by kernel_rfl) (by kernel_rfl) rfl rfl (YJ_loadL rfl tyi_3 m0 rfl) ?_
  refine AJ_call1 9 2 rfl (by kernel_rfl) rfl rfl rfl rfl rfl rfl (link_c (t := 1) (i := 1) (u := 2) (j := 0) (f := false) (by simp [newM0, MD.make, MD.link]; try omega) (by simp [newM0, MD.make, MD.link]; try omega) (by decide) (by decide)) (fun _ h => nomatch h) (AllIn.sub (And.intro m0 (And.intro m1 (trivial)))) ?_
  show AJ _ _ _ _ _ _ _ _ (_ :: _ :: _ :: _) _
  refine AJ_done (by kernel_rfl) ?_
  refine QJ_in_normal ?_
  refine QJ_then ?_
  refine CJ_reg ?_
  refine LJ_y rfl rfl (YJ_bin rfl rfl (iop_add (by omega))) ?_
  refine LJ_y rfl rfl (YJ_move rfl) ?_
  refine LJ_nil ?_
  refine QJ_thenN ?_
  refine CN_succ ?_
  refine CJ_seq ?_
  refine CJ_reg ?_
  refine LJ_y rfl rfl (YJ_bin rfl rfl rfl) ?_
  refine LJ_nil ?_
  refine QJ_then ?_
  refine CJ_seq ?_
  refine CJ_condT rfl ?_
  refine CJ_skip ?_
  refine QJ_then ?_
  refine CJ_seq ?_
  refine CJ_block ?_
  refine CJ_seq ?_
  refine CJ_reg ?_
  refine LJ_y rfl rfl (YJ_move rfl) ?_
  refine LJ_y rfl rfl (YJ_assign rfl) ?_
  refine LJ_nil ?_
  refine QJ_then ?_
  refine CJ_regD mix (by kernel_rfl) (fun _ _ _ _ _ h => h) (selR [0, 1] _) _ (selR_sub _ _) (fun _ h => h) ?_
  refine AJ_y 0 rfl (by kernel_rfl) (by kernel_rfl) rfl rfl (YJ_move rfl) ?_
  refine AJ_y 1 rfl (by kernel_rfl) (by kernel_rfl) rfl rfl (YJ_move rfl) ?_
  refine AJ_y 2 rfl (by kernel_rfl) (by kernel_rfl) rfl rfl (YJ_ixArr rfl rfl arrt_34 (by omega) (by omega) rfl) ?_
  refine AJ_y 3 rfl (by kernel_rfl) (by kernel_rfl) rfl rfl (YJ_loadL rfl tyi_3 m0 rfl) ?_
  refine AJ_y 4 rfl (by kernel_rfl) (by kernel_rfl) rfl rfl (YJ_move rfl) ?_
  refine AJ_y 5 rfl (by kernel_rfl) (by kernel_rfl) rfl rfl (YJ_bin rfl rfl (iop_add (by omega))) ?_
  refine AJ_y 6 rfl (by kernel_rfl) (by kernel_rfl) rfl rfl (YJ_rem rfl rfl (by first | decide | omega)) ?_
  refine AJ_val (v := .int .i64 2) (rfl) ?_
  refine AJ_y 7 rfl (by kernel_rfl) (by kernel_rfl) rfl rfl (YJ_ixArr rfl rfl arrt_34 (by omega) (by omega) rfl) ?_
  refine AJ_y 8 rfl (by kernel_rfl) (by kernel_rfl) rfl rfl (YJ_loadL rfl tyi_3 m0 rfl) ?_
  refine AJ_call1 9 2 rfl (by kernel_rfl) rfl rfl rfl rfl rfl rfl (link_c (t := 2) (i := 1) (u := 3) (j := 0) (f := false) (by simp [newM0, MD.make, MD.link]; try omega) (by simp [newM0, MD.make, MD.link]; try omega) (by decide) (by decide)) (fun _ h => nomatch h) (AllIn.sub (And.intro m0 (And.intro m1 (trivial)))) ?_
  show AJ _ _ _ _ _ _ _ _ (_ :: _ :: _ :: _) _
  refine AJ_done (by kernel_rfl) ?_
  refine QJ_in_normal ?_
  refine QJ_then ?_
  refine CJ_reg ?_
  refine LJ_y rfl rfl (YJ_bin rfl rfl (iop_add (by omega))) ?_
  refine LJ_y rfl rfl (YJ_move rfl) ?_
  refine LJ_nil ?_
  refine QJ_thenN ?_
  refine CN_succ ?_
  refine CJ_seq ?_
  refine CJ_reg ?_
  refine LJ_y rfl rfl (YJ_bin rfl rfl rfl) ?_
  refine LJ_nil ?_
  refine QJ_then ?_
  refine CJ_seq ?_
  refine CJ_condT rfl ?_
  refine CJ_skip ?_
  refine QJ_then ?_
  refine CJ_seq ?_
  refine CJ_block ?_
  refine CJ_seq ?_
  refine CJ_reg ?_
  refine LJ_y rfl rfl (YJ_move rfl) ?_
  refine LJ_y rfl rfl (YJ_assign rfl) ?_
  refine LJ_nil ?_
  refine QJ_then ?_
  refine CJ_regD mix (by kernel_rfl) (fun _ _ _ _ _ h => h) (selR [0, 1] _) _ (selR_sub _ _) (fun _ h => h) ?_
  refine AJ_y 0 rfl (by kernel_rfl) (by kernel_rfl) rfl rfl (YJ_move rfl) ?_
  refine AJ_y 1 rfl (by kernel_rfl) (by kernel_rfl) rfl rfl (YJ_move rfl) ?_
  refine AJ_y 2 rfl (by kernel_rfl) (by kernel_rfl) rfl rfl (YJ_ixArr rfl rfl arrt_34 (by omega) (by omega) rfl) ?_
  refine AJ_y 3 rfl (by kernel_rfl) (by kernel_rfl) rfl rfl (YJ_loadL rfl tyi_3 m0 rfl) ?_
  refine AJ_y 4 rfl (by kernel_rfl) (by kernel_rfl) rfl rfl (YJ_move rfl) ?_
  refine AJ_y 5 rfl (by kernel_rfl) (by kernel_rfl) rfl rfl (YJ_bin rfl rfl (iop_add (by omega))) ?_
  refine AJ_y 6 rfl (by kernel_rfl) (by kernel_rfl) rfl rfl (YJ_rem rfl rfl (by first | decide | omega)) ?_
  refine AJ_val (v := .int .i64 0) (rfl) ?_
  refine AJ_y 7 rfl (by kernel_rfl) (by kernel_rfl) rfl rfl (YJ_ixArr rfl rfl arrt_34 (by omega) (by omega) rfl) ?_
  refine AJ_y 8 rfl (by kernel_rfl) (by kernel_rfl) rfl rfl (YJ_loadL rfl tyi_3 m0 rfl) ?_
  refine AJ_call1 9 2 rfl (by kernel_rfl) rfl rfl rfl rfl rfl rfl (link_c (t := 3) (i := 1) (u := 1) (j := 0) (f := false) (by simp [newM0, MD.make, MD.link]; try omega) (by simp [newM0, MD.make, MD.link]; try omega) (by decide) (by decide)) (fun _ h => nomatch h) (AllIn.sub (And.intro m0 (And.intro m1 (trivial)))) ?_
  show AJ _ _ _ _ _ _ _ _ (_ :: _ :: _ :: _) _
  refine AJ_done (by kernel_rfl) ?_
  refine QJ_in_normal ?_
  refine QJ_then ?_
  refine CJ_reg ?_
  refine LJ_y rfl rfl (YJ_bin rfl rfl (iop_add (by omega))) ?_
  refine LJ_y rfl rfl (YJ_move rfl) ?_
  refine LJ_nil ?_
  refine QJ_thenN ?_
  refine CN_succ ?_
  refine CJ_seq ?_
  refine CJ_reg ?_
  refine LJ_y rfl rfl (YJ_bin rfl rfl rfl) ?_
  refine LJ_nil ?_
  refine QJ_then ?_
  refine CJ_seq ?_
  refine CJ_condF rfl ?_
  refine CJ_exit ?_
  refine QJ_then_exit ?_
  refine QJ_then_exit ?_
  refine QJ_in_exit ?_
  refine QJ_then ?_
  refine CJ_seq ?_
  refine CJ_reg ?_
  refine LJ_y rfl rfl (YJ_move rfl) ?_
  refine LJ_y rfl rfl (YJ_assign rfl) ?_
  refine LJ_y rfl rfl (YJ_assign rfl) ?_
  refine LJ_nil ?_
  refine QJ_then ?_
  refine CJ_ret ?_
  refine QJ_fin (.inl rfl) (μ' := [_]) (μr := [_, _]) (φ' := []) (res_tmp2 rfl rfl rfl) (permI [2] rfl) (fun _ h => nomatch h) ?_
  exact ⟨b1, trivial, rfl, rfl, rfl⟩
set_option maxRecDepth 100000 in
set_option maxHeartbeats 8000000 in
theorem new_neg {A : Option Addr} {pts : List (Int × Int)} {cp a b c : Nat} (hlen : pts.length ≤ 100000) (ha : a < pts.length) (hb : b < pts.length) (hc : c < pts.length) (hP : ∀ j, j < pts.length → P2 (pts.getD j (0, 0)).1 (pts.getD j (0, 0)).2) (hA : pA pts a b c < 0) : Tri Try.prog 18 [.slice A pts.length cp, .int .i64 (a : Int), .int .i64 (b : Int), .int .i64 (c : Int)] [] [sliceR 2 A pts.length (ptCells pts)] (RetL (fun _ : Nat => True) (fun B => .tuple #[.pointer (some ⟨B, 0, none⟩), .bool true]) (fun B => meshR B (newM pts a c b)) (fun _ => [])) := by
 refine Tri_of (N := 102) Try.func18 rfl ent_18 rfl rfl ?_
 intro w0 S0 T0
 show CJ _ _ _ [(0, _), (1, _), (2, _), (3, _)] _ _
 have hpl := ptCells_len pts
 have hs0 : ¬ sgn (pA pts a b c) = 0 := by have := sgn_cases (pA pts a b c); omega
 have hs1 : sgn (pA pts a b c) = -1 := by have := sgn_cases (pA pts a b c); omega
 refine CJ_seq ?_
 refine CJ_reg ?_
 refine LJ_y rfl rfl (YJ_assign rfl) ?_
 refine LJ_y rfl rfl (YJ_assign rfl) ?_
 refine LJ_nil ?_
 refine QJ_then ?_
 refine CJ_seq ?_
 refine CJ_newRow 3 1 ?_
 refine CJ_newRow 3 1 ?_
 refine CJ_newRow 37 9 ?_
 refine CJ_newRow 23 2 ?_
 refine CJ_reg ?_
 refine LJ_y rfl rfl (YJ_move rfl) ?_
 refine LJ_append 0 rfl rfl elt_26 zer_23 rfl rfl rfl rfl (Rd_fact m0 (by omega)) hpl (ptCells_one pts) (by omega) (by omega) (by decide) (List.nil_append _) ?_
 intro AP cP
 show LJ _ _ _ _ _ (_ :: _ :: _ :: _ :: _) _
 refine LJ_y rfl rfl (YJ_build1 (cs := [_, _, _, _]) lay_57 rfl rfl rfl) ?_
 refine LJ_box (cs := #[_, _, _, _]) rfl rfl rfl rfl ?_
 intro b1
 refine LJ_y rfl rfl (YJ_assign rfl) ?_
 refine LJ_nil ?_
 refine QJ_then ?_
 refine CJ_seq ?_
 refine CJ_seq ?_
 refine CJ_reg ?_
 refine LJ_y rfl rfl (YJ_move rfl) ?_
 refine LJ_y rfl rfl (YJ_len rfl ulen_26 rfl) ?_
 refine LJ_y rfl rfl (YJ_move rfl) ?_
 refine LJ_nil ?_
 refine QJ_then ?_
 refine CJ_block ?_
 refine CJ_loopF (F := fun (i : Nat × Option Addr × Nat) => ⟨[(0, .slice A pts.length cp), (1, .int .i64 (a : Int)), (2, .int .i64 (b : Int)), (3, .int .i64 (c : Int)), (10, .pointer (some ⟨b1, 0, none⟩)), (21, .int .i64 pts.length), (22, .int .i64 (i.1 : Nat))], [cellsR b1 #[.slice AP (0 + pts.length) cP, .slice none 0 0, .slice none 0 0, .slice i.2.1 i.1 i.2.2] 57, rowR 3 1 i.2.1 i.1 i.2.2 (Iv (List.replicate i.1 (-1)))], []⟩) (I := fun (i : Nat × Option Addr × Nat) => i.1 ≤ pts.length) (m := fun (i : Nat × Option Addr × Nat) => pts.length - i.1) (0, none, 0) (μr := [_, _, _]) (Nat.zero_le _) (And.intro rfl (And.intro rfl (And.intro rfl (And.intro rfl (And.intro rfl (And.intro rfl (And.intro rfl (trivial)))))))) (permI [0, 3] rfl) (fun _ h => nomatch h) ?_
 rintro ⟨k, A0, cA0⟩ hk
 try dsimp only at hk
 show CJ _ _ _ [(0, .slice A pts.length cp), (1, .int .i64 (a : Int)), (2, .int .i64 (b : Int)), (3, .int .i64 (c : Int)), (10, .pointer (some ⟨b1, 0, none⟩)), (21, .int .i64 pts.length), (22, .int .i64 (k : Nat))] (cellsR b1 #[.slice AP (0 + pts.length) cP, .slice none 0 0, .slice none 0 0, .slice A0 k cA0] 57 :: rowR 3 1 A0 k cA0 (Iv (List.replicate k (-1))) :: _ :: _ :: _ :: _) _
 refine CJ_seq ?_
 refine CJ_reg ?_
 refine LJ_y rfl rfl (YJ_bin rfl rfl rfl) ?_
 refine LJ_nil ?_
 refine QJ_then ?_
 refine CJ_seq ?_
 refine CJ_cond rfl (fun h23 => ?_) (fun h23 => ?_)
 ·simp only [decide_eq_true_eq] at h23
  refine CJ_skip ?_
  refine QJ_then ?_
  refine CJ_seq ?_
  refine CJ_block ?_
  refine CJ_reg ?_
  refine LJ_y rfl rfl (YJ_move rfl) ?_
  refine LJ_y rfl rfl (YJ_move rfl) ?_
  refine LJ_y rfl rfl (YJ_nilCheck rfl) ?_
  refine LJ_y rfl rfl (YJ_fieldOwn rfl fld_57_3 rfl) ?_
  refine LJ_y rfl rfl (YJ_loadL rfl tyi_55 m0 rfl) ?_
  refine LJ_buildSlice (cs := [_]) rfl rfl elt_55 zer_3 rfl (by decide) (pvs := [(_, _)]) rfl rfl rfl ?_
  intro b2
  refine LJ_append 2 rfl rfl elt_55 zer_3 rfl rfl rfl rfl (Rd_own m0) rfl rfl (by omega) (by omega) (by decide) (Iv_rep k) ?_
  intro A30 c30
  show LJ _ _ _ _ _ (_ :: _ :: _ :: _ :: _ :: _ :: _) _
  refine LJ_y rfl rfl (YJ_nilCheck rfl) ?_
  refine LJ_y rfl rfl (YJ_fieldOwn rfl fld_57_3 rfl) ?_
  refine LJ_store (cs' := #[_, _, _, _]) (μ' := [_, _, _, _, _, _]) 1 rfl rfl rfl rfl tyi_55 rfl (Nat.le_of_ble_eq_true rfl) rfl rfl rfl ?_
  refine LJ_nil ?_
  refine QJ_in_normal ?_
  refine QJ_then ?_
  refine CJ_reg ?_
  refine LJ_y rfl rfl (YJ_bin rfl rfl (iop_add (by omega))) ?_
  refine LJ_y rfl rfl (YJ_move rfl) ?_
  refine LJ_nil ?_
  refine QJ_roundF (F := fun (i : Nat × Option Addr × Nat) => ⟨[(0, .slice A pts.length cp), (1, .int .i64 (a : Int)), (2, .int .i64 (b : Int)), (3, .int .i64 (c : Int)), (10, .pointer (some ⟨b1, 0, none⟩)), (21, .int .i64 pts.length), (22, .int .i64 (i.1 : Nat))], [cellsR b1 #[.slice AP (0 + pts.length) cP, .slice none 0 0, .slice none 0 0, .slice i.2.1 i.1 i.2.2] 57, rowR 3 1 i.2.1 i.1 i.2.2 (Iv (List.replicate i.1 (-1)))], []⟩) (I := fun (i : Nat × Option Addr × Nat) => i.1 ≤ pts.length) (m := fun (i : Nat × Option Addr × Nat) => pts.length - i.1) (i := (k, A0, cA0)) ((k + 1, A30, c30)) (μd := [_]) (by dsimp only; omega) (by dsimp only; omega) (And.intro rfl (And.intro rfl (And.intro rfl (And.intro rfl (And.intro rfl (And.intro rfl (And.intro rfl (trivial)))))))) (permI [1, 1, 1, 1, 1] rfl) (fun _ h => nomatch h) (fun _ h => h)
 ·simp only [decide_eq_false_iff_not] at h23
  refine CJ_exit ?_
  refine QJ_then_exit ?_
  refine QJ_then_exit ?_
  refine QJ_in_exit ?_
  refine QJ_then ?_
  refine CJ_seq ?_
  refine CJ_seq ?_
  refine CJ_regD mix (by kernel_rfl) (fun _ _ _ _ _ h => h) _ _ (fun _ h => h) (fun _ h => h) ?_
  refine AJ_y 0 rfl (by kernel_rfl) (by kernel_rfl) rfl rfl (YJ_move rfl) ?_
  refine AJ_y 1 rfl (by kernel_rfl) (by kernel_rfl) rfl rfl (YJ_move rfl) ?_
  refine AJ_y 2 rfl (by kernel_rfl) (by kernel_rfl) rfl rfl (YJ_ixFact rfl rfl elt_26 m0 (by decide) (by omega) (by omega) (by omega)) ?_
  refine AJ_y 3 rfl (by kernel_rfl) (by kernel_rfl) rfl rfl (YJ_loadFactN (vs := [_, _]) (xs := ptCells pts) rfl tyi_23 m0 (ptCells_get (i := a) (by omega)) rfl) ?_
  refine AJ_y 4 rfl (by kernel_rfl) (by kernel_rfl) rfl rfl (YJ_move rfl) ?_
  refine AJ_y 5 rfl (by kernel_rfl) (by kernel_rfl) rfl rfl (YJ_move rfl) ?_
  refine AJ_y 6 rfl (by kernel_rfl) (by kernel_rfl) rfl rfl (YJ_ixFact rfl rfl elt_26 m0 (by decide) (by omega) (by omega) (by omega)) ?_
  refine AJ_y 7 rfl (by kernel_rfl) (by kernel_rfl) rfl rfl (YJ_loadFactN (vs := [_, _]) (xs := ptCells pts) rfl tyi_23 m0 (ptCells_get (i := b) (by omega)) rfl) ?_
  refine AJ_y 8 rfl (by kernel_rfl) (by kernel_rfl) rfl rfl (YJ_move rfl) ?_
  refine AJ_y 9 rfl (by kernel_rfl) (by kernel_rfl) rfl rfl (YJ_move rfl) ?_
  refine AJ_y 10 rfl (by kernel_rfl) (by kernel_rfl) rfl rfl (YJ_ixFact rfl rfl elt_26 m0 (by decide) (by omega) (by omega) (by omega)) ?_
  refine AJ_y 11 rfl (by kernel_rfl) (by kernel_rfl) rfl rfl (YJ_loadFactN (vs := [_, _]) (xs := ptCells pts) rfl tyi_23 m0 (ptCells_get (i := c) (by omega)) rfl) ?_
  refine AJ_call0 12 rfl (by kernel_rfl) rfl rfl rfl rfl rfl (orient_c (hP a ha) (hP b hb) (hP c hc)) (AllIn.sub (by first | exact trivial | exact And.intro (by repeat first | exact .head _ | apply List.Mem.tail) trivial | exact And.intro (by repeat first | exact .head _ | apply List.Mem.tail) (And.intro (by repeat first | exact .head _ | apply List.Mem.tail) trivial))) ?_
  refine AJ_done (by kernel_rfl) ?_
  refine QJ_then ?_
  refine CJ_block ?_
  refine CJ_seq ?_
  refine CJ_reg ?_
  refine LJ_y rfl rfl (YJ_bin rfl rfl rfl) ?_
  refine LJ_y rfl rfl (YJ_assign rfl) ?_
  refine LJ_nil ?_
  refine QJ_then ?_
  refine CJ_condF2 rfl (decide_eq_false hs0) ?_
  refine CJ_seq ?_
  refine CJ_reg ?_
  refine LJ_y rfl rfl (YJ_bin rfl rfl rfl) ?_
  refine LJ_y rfl rfl (YJ_assign rfl) ?_
  refine LJ_nil ?_
  refine QJ_then ?_
  refine CJ_condT2 rfl (decide_eq_true hs1) ?_
  refine CJ_reg ?_
  refine LJ_y rfl rfl (YJ_move rfl) ?_
  refine LJ_y rfl rfl (YJ_move rfl) ?_
  refine LJ_y rfl rfl (YJ_assign rfl) ?_
  refine LJ_y rfl rfl (YJ_assign rfl) ?_
  refine LJ_nil ?_
  refine QJ_in_normal ?_
  refine QJ_then ?_
  refine CJ_seq ?_
  refine CJ_closeMesh (newM0 pts) (μr := []) (permI [0, 1, 1, 1] rfl) ⟨by simp [newM0], rfl⟩ ⟨rfl, rfl⟩ ⟨rfl, rfl⟩ ⟨by simp [newM0]; omega, by simp only [newM0]; rw [show k = pts.length by omega]⟩ ?_
  refine CJ_reg ?_
  refine LJ_y rfl rfl (YJ_move rfl) ?_
  refine LJ_y rfl rfl (YJ_move rfl) ?_
  refine LJ_y rfl rfl (YJ_move rfl) ?_
  refine LJ_y rfl rfl (YJ_move rfl) ?_
  refine LJ_call1 0 rfl rfl rfl rfl rfl rfl (make_c (a := (a : Int)) (b := (c : Int)) (c := (b : Int)) (by simp [newM0, MD.make, MD.link]; try omega) (by simp [newM0, MD.make, MD.link]; try omega) (by simp [newM0, MD.make, MD.link]; try omega) (by simp [newM0, MD.make, MD.link, setAt_len]; try omega) (by simp [newM0, MD.make, MD.link, setAt_len]; try omega) (by simp [newM0, MD.make, MD.link, setAt_len]; try omega) (by simp [newM0, MD.make, MD.link, setAt_len]; try omega)) (fun _ h => nomatch h) ?_
  show LJ _ _ _ _ _ (_ :: _) _
  refine LJ_val (v := .int .i64 0) (rfl) ?_
  refine LJ_y rfl rfl (YJ_assign rfl) ?_
  refine LJ_nil ?_
  refine QJ_then ?_
  refine CJ_seq ?_
  refine CJ_reg ?_
  refine LJ_y rfl rfl (YJ_move rfl) ?_
  refine LJ_y rfl rfl (YJ_move rfl) ?_
  refine LJ_y rfl rfl (YJ_move rfl) ?_
  refine LJ_y rfl rfl (YJ_build1 (cs := [_, _, _]) lay_34 rfl rfl rfl) ?_
  refine LJ_alloc (cs := #[_, _, _]) rfl rfl zer_34 rfl ?_
  intro b3
  refine LJ_store (cs' := #[_, _, _]) (μ' := [_, _]) 0 rfl rfl rfl rfl tyi_34 rfl (Nat.le_of_ble_eq_true rfl) rfl rfl rfl ?_
  refine LJ_nil ?_
  refine QJ_then ?_
  refine CJ_seq ?_
  refine CJ_reg ?_
  refine LJ_alloc (cs := #[_, _, _]) rfl rfl zer_34 rfl ?_
  intro b4
  refine LJ_nil ?_
  refine QJ_then ?_
  refine CJ_seq ?_
  refine CJ_seq ?_
  refine CJ_reg ?_
  refine LJ_y rfl rfl (YJ_move rfl) ?_
  refine LJ_nil ?_
  refine QJ_then ?_
  refine CJ_block ?_
  refine CJ_loopN 4 ?_
  refine CN_succ ?_
  refine CJ_seq ?_
  refine CJ_reg ?_
  refine LJ_y rfl rfl (YJ_bin rfl rfl rfl) ?_
  refine LJ_nil ?_
  refine QJ_then ?_
  refine CJ_seq ?_
  refine CJ_condT rfl ?_
  refine CJ_skip ?_
  refine QJ_then ?_
  refine CJ_seq ?_
  refine CJ_block ?_
  refine CJ_seq ?_
  refine CJ_reg ?_
  refine LJ_y rfl rfl (YJ_move rfl) ?_
  refine LJ_y rfl rfl (YJ_assign rfl) ?_
  refine LJ_nil ?_
  refine QJ_then ?_
  refine CJ_seq ?_
  refine CJ_regD mix (by kernel_rfl) (fun _ _ _ _ _ h => h) (selR [1] _) _ (selR_sub _ _) (fun _ h => h) ?_
  refine AJ_y 0 rfl (by kernel_rfl) (by kernel_rfl) rfl rfl (YJ_move rfl) ?_
  refine AJ_y 1 rfl (by kernel_rfl) (by kernel_rfl) rfl rfl (YJ_move rfl) ?_
  refine AJ_y 2 rfl (by kernel_rfl) (by kernel_rfl) rfl rfl (YJ_move rfl) ?_
  refine AJ_y 3 rfl (by kernel_rfl) (by kernel_rfl) rfl rfl (YJ_bin rfl rfl (iop_add (by omega))) ?_
  refine AJ_y 4 rfl (by kernel_rfl) (by kernel_rfl) rfl rfl (YJ_rem rfl rfl (by first | decide | omega)) ?_
  refine AJ_val (v := .int .i64 2) (rfl) ?_
  refine AJ_y 5 rfl (by kernel_rfl) (by kernel_rfl) rfl rfl (YJ_ixArr rfl rfl arrt_34 (by omega) (by omega) rfl) ?_
  refine AJ_y 6 rfl (by kernel_rfl) (by kernel_rfl) rfl rfl (YJ_loadL rfl tyi_3 m0 rfl) ?_
  refine AJ_y 7 rfl (by kernel_rfl) (by kernel_rfl) rfl rfl (YJ_move rfl) ?_
  refine AJ_y 8 rfl (by kernel_rfl) (by kernel_rfl) rfl rfl (YJ_bin rfl rfl (iop_add (by omega))) ?_
  refine AJ_y 9 rfl (by kernel_rfl) (by kernel_rfl) rfl rfl (YJ_rem rfl rfl (by first | decide | omega)) ?_
  refine AJ_val (v := .int .i64 1) (rfl) ?_
  refine AJ_y 10 rfl (by kernel_rfl) (by kernel_rfl) rfl rfl (YJ_ixArr rfl rfl arrt_34 (by omega) (by omega) rfl) ?_
  refine AJ_y 11 rfl (by kernel_rfl) (by kernel_rfl) rfl rfl (YJ_loadL rfl tyi_3 m0 rfl) ?_
  refine AJ_call1 12 2 rfl (by kernel_rfl) rfl rfl rfl rfl rfl rfl (make_c (a := (b : Int)) (b := (c : Int)) (c := (-1)) (by simp [newM0, MD.make, MD.link]; try omega) (by simp [newM0, MD.make, MD.link]; try omega) (by simp [newM0, MD.make, MD.link]; try omega) (by simp [newM0, MD.make, MD.link, setAt_len]; try omega) (by simp [newM0, MD.make, MD.link, setAt_len]; try omega) (by simp [newM0, MD.make, MD.link, setAt_len]; try omega) (by simp [newM0, MD.make, MD.link, setAt_len]; try omega)) (fun _ h => nomatch h) (AllIn.sub (And.intro m1 (trivial))) ?_
  show AJ _ _ _ _ _ _ _ _ (_ :: _ :: _ :: _) _
  refine AJ_val (v := .int .i64 1) (rfl) ?_
  refine AJ_y 13 rfl (by kernel_rfl) (by kernel_rfl) rfl rfl (YJ_ixArr rfl rfl arrt_34 (by omega) (by omega) rfl) ?_
  refine AJ_store (cs' := #[_, _, _]) (μ' := [_, _, _]) 14 0 rfl (by kernel_rfl) rfl rfl rfl rfl tyi_3 rfl (Nat.le_of_ble_eq_true rfl) rfl rfl rfl (fun _ => AllIn.sub (And.intro m1 (trivial))) ?_
  refine AJ_done (by kernel_rfl) ?_
  refine QJ_then ?_
  refine CJ_reg ?_
  refine LJ_y rfl rfl (YJ_move rfl) ?_
  refine LJ_y rfl rfl (YJ_move rfl) ?_
  refine LJ_y rfl rfl (YJ_move rfl) ?_
  refine LJ_y rfl rfl (YJ_move rfl) ?_
  refine LJ_y rfl rfl (YJ_ixArr rfl rfl arrt_34 (by omega) (by omega) rfl) ?_
  refine LJ_y rfl rfl (YJ_loadL rfl tyi_3 m0 rfl) ?_
  refine LJ_call1 2 rfl rfl rfl rfl rfl rfl (link_c (t := 0) (i := 0) (u := 1) (j := 2) (f := false) (by simp [newM0, MD.make, MD.link]; try omega) (by simp [newM0, MD.make, MD.link]; try omega) (by decide) (by decide)) (fun _ h => nomatch h) ?_
  show LJ _ _ _ _ _ (_ :: _ :: _ :: _) _
  refine LJ_nil ?_
  refine QJ_in_normal ?_
  refine QJ_then ?_
  refine CJ_reg ?_
  refine LJ_y rfl rfl (YJ_bin rfl rfl (iop_add (by omega))) ?_
  refine LJ_y rfl rfl (YJ_move rfl) ?_
  refine LJ_nil ?_
  refine QJ_thenN ?_
  refine CN_succ ?_
  refine CJ_seq ?_
  refine CJ_reg ?_
  refine LJ_y rfl rfl (YJ_bin rfl rfl rfl) ?_
  refine LJ_nil ?_
  refine QJ_then ?_
  refine CJ_seq ?_
  refine CJ_condT rfl ?_
  refine CJ_skip ?_
  refine QJ_then ?_
  refine CJ_seq ?_
  refine CJ_block ?_
  refine CJ_seq ?_
  refine CJ_reg ?_
  refine LJ_y rfl rfl (YJ_move rfl) ?_
  refine LJ_y rfl rfl (YJ_assign rfl) ?_
  refine LJ_nil ?_
  refine QJ_then ?_
  refine CJ_seq ?_
  refine CJ_regD mix (by kernel_rfl) (fun _ _ _ _ _ h => h) (selR [1] _) _ (selR_sub _ _) (fun _ h => h) ?_
  refine AJ_y 0 rfl (by kernel_rfl) (by kernel_rfl) rfl rfl (YJ_move rfl) ?_
  refine AJ_y 1 rfl (by kernel_rfl) (by kernel_rfl) rfl rfl (YJ_move rfl) ?_
  refine AJ_y 2 rfl (by kernel_rfl) (by kernel_rfl) rfl rfl (YJ_move rfl) ?_
  refine AJ_y 3 rfl (by kernel_rfl) (by kernel_rfl) rfl rfl (YJ_bin rfl rfl (iop_add (by omega))) ?_
  refine AJ_y 4 rfl (by kernel_rfl) (by kernel_rfl) rfl rfl (YJ_rem rfl rfl (by first | decide | omega)) ?_
  refine AJ_val (v := .int .i64 0) (rfl) ?_
  refine AJ_y 5 rfl (by kernel_rfl) (by kernel_rfl) rfl rfl (YJ_ixArr rfl rfl arrt_34 (by omega) (by omega) rfl) ?_
  refine AJ_y 6 rfl (by kernel_rfl) (by kernel_rfl) rfl rfl (YJ_loadL rfl tyi_3 m0 rfl) ?_
  refine AJ_y 7 rfl (by kernel_rfl) (by kernel_rfl) rfl rfl (YJ_move rfl) ?_
  refine AJ_y 8 rfl (by kernel_rfl) (by kernel_rfl) rfl rfl (YJ_bin rfl rfl (iop_add (by omega))) ?_
  refine AJ_y 9 rfl (by kernel_rfl) (by kernel_rfl) rfl rfl (YJ_rem rfl rfl (by first | decide | omega)) ?_
  refine AJ_val (v := .int .i64 2) (rfl) ?_
  refine AJ_y 10 rfl (by kernel_rfl) (by kernel_rfl) rfl rfl (YJ_ixArr rfl rfl arrt_34 (by omega) (by omega) rfl) ?_
  refine AJ_y 11 rfl (by kernel_rfl) (by kernel_rfl) rfl rfl (YJ_loadL rfl tyi_3 m0 rfl) ?_
  refine AJ_call1 12 2 rfl (by kernel_rfl) rfl rfl rfl rfl rfl rfl (make_c (a := (a : Int)) (b := (b : Int)) (c := (-1)) (by simp [newM0, MD.make, MD.link]; try omega) (by simp [newM0, MD.make, MD.link]; try omega) (by simp [newM0, MD.make, MD.link]; try omega) (by simp [newM0, MD.make, MD.link, setAt_len]; try omega) (by simp [newM0, MD.make, MD.link, setAt_len]; try omega) (by simp [newM0, MD.make, MD.link, setAt_len]; try omega) (by simp [newM0, MD.make, MD.link, setAt_len]; try omega)) (fun _ h => nomatch h) (AllIn.sub (And.intro m1 (trivial))) ?_
  show AJ _ _ _ _ _ _ _ _ (_ :: _ :: _ :: _) _
  refine AJ_val (v := .int .i64 2) (rfl) ?_
  refine AJ_y 13 rfl (by kernel_rfl) (by kernel_rfl) rfl rfl (YJ_ixArr rfl rfl arrt_34 (by omega) (by omega) rfl) ?_
  refine AJ_store (cs' := #[_, _, _]) (μ' := [_, _, _]) 14 0 rfl (by kernel_rfl) rfl rfl rfl rfl tyi_3 rfl (Nat.le_of_ble_eq_true rfl) rfl rfl rfl (fun _ => AllIn.sub (And.intro m1 (trivial))) ?_
  refine AJ_done (by kernel_rfl) ?_
  refine QJ_then ?_
  refine CJ_reg ?_
  refine LJ_y rfl rfl (YJ_move rfl) ?_
  refine LJ_y rfl rfl (YJ_move rfl) ?_
  refine LJ_y rfl rfl (YJ_move rfl) ?_
  refine LJ_y rfl rfl (YJ_move rfl) ?_
  refine LJ_y rfl rfl (YJ_ixArr rfl rfl arrt_34 (by omega) (by omega) rfl) ?_
  refine LJ_y rfl rfl (YJ_loadL rfl tyi_3 m0 rfl) ?_
  refine LJ_call1 2 rfl rfl rfl rfl rfl rfl (link_c (t := 0) (i := 1) (u := 2) (j := 2) (f := false) (by simp [newM0, MD.make, MD.link]; try omega) (by simp [newM0, MD.make, MD.link]; try omega) (by decide) (by decide)) (fun _ h => nomatch h) ?_
  show LJ _ _ _ _ _ (_ :: _ :: _ :: _) _
  refine LJ_nil ?_
  refine QJ_in_normal ?_
  refine QJ_then ?_
  refine CJ_reg ?_
  refine LJ_y rfl rfl (YJ_bin rfl rfl (iop_add (by omega))) ?_
  refine LJ_y rfl rfl (YJ_move rfl) ?_
  refine LJ_nil ?_
  refine QJ_thenN ?_
  refine CN_succ ?_
  refine CJ_seq ?_
  refine CJ_reg ?_
  refine LJ_y rfl rfl (YJ_bin rfl rfl rfl) ?_
  refine LJ_nil ?_
  refine QJ_then ?_
  refine CJ_seq ?_
  refine CJ_condT rfl ?_
  refine CJ_skip ?_
  refine QJ_then ?_
  refine CJ_seq ?_
  refine CJ_block ?_
  refine CJ_seq ?_
  refine CJ_reg ?_
  refine LJ_y rfl rfl (YJ_move rfl) ?_
  refine LJ_y rfl rfl (YJ_assign rfl) ?_
  refine LJ_nil ?_
  refine QJ_then ?_
  refine CJ_seq ?_
  refine CJ_regD mix (by kernel_rfl) (fun _ _ _ _ _ h => h) (selR [1] _) _ (selR_sub _ _) (fun _ h => h) ?_
  refine AJ_y 0 rfl (by kernel_rfl) (by kernel_rfl) rfl rfl (YJ_move rfl) ?_
  refine AJ_y 1 rfl (by kernel_rfl) (by kernel_rfl) rfl rfl (YJ_move rfl) ?_
  refine AJ_y 2 rfl (by kernel_rfl) (by kernel_rfl) rfl rfl (YJ_move rfl) ?_
  refine AJ_y 3 rfl (by kernel_rfl) (by kernel_rfl) rfl rfl (YJ_bin rfl rfl (iop_add (by omega))) ?_
  refine AJ_y 4 rfl (by kernel_rfl) (by kernel_rfl) rfl rfl (YJ_rem rfl rfl (by first | decide | omega)) ?_
  refine AJ_val (v := .int .i64 1) (rfl) ?_
  refine AJ_y 5 rfl (by kernel_rfl) (by kernel_rfl) rfl rfl (YJ_ixArr rfl rfl arrt_34 (by omega) (by omega) rfl) ?_
  refine AJ_y 6 rfl (by kernel_rfl) (by kernel_rfl) rfl rfl (YJ_loadL rfl tyi_3 m0 rfl) ?_
  refine AJ_y 7 rfl (by kernel_rfl) (by kernel_rfl) rfl rfl (YJ_move rfl) ?_
  refine AJ_y 8 rfl (by kernel_rfl) (by kernel_rfl) rfl rfl (YJ_bin rfl rfl (iop_add (by omega))) ?_
  refine AJ_y 9 rfl (by kernel_rfl) (by kernel_rfl) rfl rfl (YJ_rem rfl rfl (by first | decide | omega)) ?_
  refine AJ_val (v := .int .i64 0) (rfl) ?_
  refine AJ_y 10 rfl (by kernel_rfl) (by kernel_rfl) rfl rfl (YJ_ixArr rfl rfl arrt_34 (by omega) (by omega) rfl) ?_
  refine AJ_y 11 rfl (by kernel_rfl) (by kernel_rfl) rfl rfl (YJ_loadL rfl tyi_3 m0 rfl) ?_
  refine AJ_call1 12 2 rfl (by kernel_rfl) rfl rfl rfl rfl rfl rfl (make_c (a := (c : Int)) (b := (a : Int)) (c := (-1)) (by simp [newM0, MD.make, MD.link]; try omega) (by simp [newM0, MD.make, MD.link]; try omega) (by simp [newM0, MD.make, MD.link]; try omega) (by simp [newM0, MD.make, MD.link, setAt_len]; try omega) (by simp [newM0, MD.make, MD.link, setAt_len]; try omega) (by simp [newM0, MD.make, MD.link, setAt_len]; try omega) (by simp [newM0, MD.make, MD.link, setAt_len]; try omega)) (fun _ h => nomatch h) (AllIn.sub (And.intro m1 (trivial))) ?_
  show AJ _ _ _ _ _ _ _ _ (_ :: _ :: _ :: _) _
  refine AJ_val (v := .int .i64 3) (rfl) ?_
  refine AJ_y 13 rfl (by kernel_rfl) (by kernel_rfl) rfl rfl (YJ_ixArr rfl rfl arrt_34 (by omega) (by omega) rfl) ?_
  refine AJ_store (cs' := #[_, _, _]) (μ' := [_, _, _]) 14 0 rfl (by kernel_rfl) rfl rfl rfl rfl tyi_3 rfl (Nat.le_of_ble_eq_true rfl) rfl rfl rfl (fun _ => AllIn.sub (And.intro m1 (trivial))) ?_
  refine AJ_done (by kernel_rfl) ?_
  refine QJ_then ?_
  refine CJ_reg ?_
  refine LJ_y rfl rfl (YJ_move rfl) ?_
  refine LJ_y rfl rfl (YJ_move rfl) ?_
  refine LJ_y rfl rfl (YJ_move rfl) ?_
  refine LJ_y rfl rfl (YJ_move rfl) ?_
  refine LJ_y rfl rfl (YJ_ixArr rfl rfl arrt_34 (by omega) (by omega) rfl) ?_
  refine LJ_y rfl rfl (YJ_loadL rfl tyi_3 m0 rfl) ?_
  refine LJ_call1 2 rfl rfl rfl rfl rfl rfl (link_c (t := 0) (i := 2) (u := 3) (j := 2) (f := false) (by simp [newM0, MD.make, MD.link]; try omega) (by simp [newM0, MD.make, MD.link]; try omega) (by decide) (by decide)) (fun _ h => nomatch h) ?_
  show LJ _ _ _ _ _ (_ :: _ :: _ :: _) _
  refine LJ_nil ?_
  refine QJ_in_normal ?_
  refine QJ_then ?_
  refine CJ_reg ?_
  refine LJ_y rfl rfl (YJ_bin rfl rfl (iop_add (by omega))) ?_
  refine LJ_y rfl rfl (YJ_move rfl) ?_
  refine LJ_nil ?_
  refine QJ_thenN ?_
  refine CN_succ ?_
  refine CJ_seq ?_
  refine CJ_reg ?_
  refine LJ_y rfl rfl (YJ_bin rfl rfl rfl) ?_
  refine LJ_nil ?_
  refine QJ_then ?_
  refine CJ_seq ?_
  refine CJ_condF rfl ?_
  refine CJ_exit ?_
  refine QJ_then_exit ?_
  refine QJ_then_exit ?_
  refine QJ_in_exit ?_
  refine QJ_then ?_
  refine CJ_seq ?_
  refine CJ_seq ?_
  refine CJ_reg ?_
  refine LJ_y rfl rfl (YJ_move rfl) ?_
  refine LJ_nil ?_
  refine QJ_then ?_
  refine CJ_block ?_
  refine CJ_loopN 4 ?_
  refine CN_succ ?_
  refine CJ_seq ?_
  refine CJ_reg ?_
  refine LJ_y rfl rfl (YJ_bin rfl rfl rfl) ?_
  refine LJ_nil ?_
  refine QJ_then ?_
  refine CJ_seq ?_
  refine CJ_condT rfl ?_
  refine CJ_skip ?_
  refine QJ_then ?_
  refine CJ_seq ?_
  refine CJ_block ?_
  refine CJ_seq ?_
  refine CJ_reg ?_
  refine LJ_y rfl rfl (YJ_move rfl) ?_
  refine LJ_y rfl rfl (YJ_assign rfl) ?_
  refine LJ_nil ?_
  refine QJ_then ?_
  refine CJ_regD mix (by kernel_rfl) (fun _ _ _ _ _ h => h) (selR [0, 1] _) _ (selR_sub _ _) (fun _ h => h) ?_
  refine AJ_y 0 rfl (by kernel_rfl) (by kernel_rfl) rfl rfl (YJ_move rfl) ?_
  refine AJ_y 1 rfl (by kernel_rfl) (by kernel_rfl) rfl rfl (YJ_move rfl) ?_
  refine AJ_y 2 rfl (by kernel_rfl) (by kernel_rfl) rfl rfl (YJ_ixArr rfl rfl arrt_34 (by omega) (by omega) rfl) ?_
  refine AJ_y 3 rfl (by kernel_rfl) (by kernel_rfl) rfl rfl (YJ_loadL rfl tyi_3 m0 rfl) ?_
  refine AJ_y 4 rfl (by kernel_rfl) (by kernel_rfl) rfl rfl (YJ_move rfl) ?_
  refine AJ_y 5 rfl (by kernel_rfl) (by kernel_rfl) rfl rfl (YJ_bin rfl rfl (iop_add (by omega))) ?_
  refine AJ_y 6 rfl (by kernel_rfl) (by kernel_rfl) rfl rfl (YJ_rem rfl rfl (by first | decide | omega)) ?_
  refine AJ_val (v := .int .i64 1) (rfl) ?_
  refine AJ_y 7 rfl (by kernel_rfl) (by kernel_rfl) rfl rfl (YJ_ixArr rfl rfl arrt_34 (by omega) (by omega) rfl) ?_
  refine AJ_y 8 rfl (by kernel_rfl) (by kernel_rfl) rfl rfl (YJ_loadL rfl tyi_3 m0 rfl) ?_
  refine AJ_call1 9 2 rfl (by kernel_rfl) rfl rfl rfl rfl rfl rfl (link_c (t := 1) (i := 1) (u := 2) (j := 0) (f := false) (by simp [newM0, MD.make, MD.link]; try omega) (by simp [newM0, MD.make, MD.link]; try omega) (by decide) (by decide)) (fun _ h => nomatch h) (AllIn.sub (And.intro m0 (And.intro m1 (trivial)))) ?_
  show AJ _ _ _ _ _ _ _ _ (_ :: _ :: _ :: _) _
  refine AJ_done (by kernel_rfl) ?_
  refine QJ_in_normal ?_
  refine QJ_then ?_
  refine CJ_reg ?_
  refine LJ_y rfl rfl (YJ_bin rfl rfl (iop_add (by omega))) ?_
  refine LJ_y rfl rfl (YJ_move rfl) ?_
  refine LJ_nil ?_
  refine QJ_thenN ?_
  refine CN_succ ?_
  refine CJ_seq ?_
  refine CJ_reg ?_
  refine LJ_y rfl rfl (YJ_bin rfl rfl rfl) ?_
  refine LJ_nil ?_
  refine QJ_then ?_
  refine CJ_seq ?_
  refine CJ_condT rfl ?_
  refine CJ_skip ?_
  refine QJ_then ?_
  refine CJ_seq ?_
  refine CJ_block ?_
  refine CJ_seq ?_
  refine CJ_reg ?_
  refine LJ_y rfl rfl (YJ_move rfl) ?_
  refine LJ_y rfl rfl (YJ_assign rfl) ?_
  refine LJ_nil ?_
  refine QJ_then ?_
  refine CJ_regD mix (by kernel_rfl) (fun _ _ _ _ _ h => h) (selR [0, 1] _) _ (selR_sub _ _) (fun _ h => h) ?_
  refine AJ_y 0 rfl (by kernel_rfl) (by kernel_rfl) rfl rfl (YJ_move rfl) ?_
  refine AJ_y 1 rfl (by kernel_rfl) (by kernel_rfl) rfl rfl (YJ_move rfl) ?_
  refine AJ_y 2 rfl (by kernel_rfl) (by kernel_rfl) rfl rfl (YJ_ixArr rfl rfl arrt_34 (by omega) (by omega) rfl) ?_
  refine AJ_y 3 rfl (by kernel_rfl) (by kernel_rfl) rfl rfl (YJ_loadL rfl tyi_3 m0 rfl) ?_
  refine AJ_y 4 rfl (by kernel_rfl) (by kernel_rfl) rfl rfl (YJ_move rfl) ?_
  refine AJ_y 5 rfl (by kernel_rfl) (by kernel_rfl) rfl rfl (YJ_bin rfl rfl (iop_add (by omega))) ?_
  refine AJ_y 6 rfl (by kernel_rfl) (by kernel_rfl) rfl rfl (YJ_rem rfl rfl (by first | decide | omega)) ?_
  refine AJ_val (v := .int .i64 2) (rfl) ?_
  refine AJ_y 7 rfl (by kernel_rfl) (by kernel_rfl) rfl rfl (YJ_ixArr rfl rfl arrt_34 (by omega) (by omega) rfl) ?_
  refine AJ_y 8 rfl (by kernel_rfl) (by kernel_rfl) rfl rfl (YJ_loadL rfl tyi_3 m0 rfl) ?_
  refine AJ_call1 9 2 rfl (by kernel_rfl) rfl rfl rfl rfl rfl rfl (link_c (t := 2) (i := 1) (u := 3) (j := 0) (f := false) (by simp [newM0, MD.make, MD.link]; try omega) (by simp [newM0, MD.make, MD.link]; try omega) (by decide) (by decide)) (fun _ h => nomatch h) (AllIn.sub (And.intro m0 (And.intro m1 (trivial)))) ?_
  show AJ _ _ _ _ _ _ _ _ (_ :: _ :: _ :: _) _
  refine AJ_done (by kernel_rfl) ?_
  refine QJ_in_normal ?_
  refine QJ_then ?_
  refine CJ_reg ?_
  refine LJ_y rfl rfl (YJ_bin rfl rfl (iop_add (by omega))) ?_
  refine LJ_y rfl rfl (YJ_move rfl) ?_
  refine LJ_nil ?_
  refine QJ_thenN ?_
  refine CN_succ ?_
  refine CJ_seq ?_
  refine CJ_reg ?_
  refine LJ_y rfl rfl (YJ_bin rfl rfl rfl) ?_
  refine LJ_nil ?_
  refine QJ_then ?_
  refine CJ_seq ?_
  refine CJ_condT rfl ?_
  refine CJ_skip ?_
  refine QJ_then ?_
  refine CJ_seq ?_
  refine CJ_block ?_
  refine CJ_seq ?_
  refine CJ_reg ?_
  refine LJ_y rfl rfl (YJ_move rfl) ?_
  refine LJ_y rfl rfl (YJ_assign rfl) ?_
  refine LJ_nil ?_
  refine QJ_then ?_
  refine CJ_regD mix (by kernel_rfl) (fun _ _ _ _ _ h => h) (selR [0, 1] _) _ (selR_sub _ _) (fun _ h => h) ?_
  refine AJ_y 0 rfl (by kernel_rfl) (by kernel_rfl) rfl rfl (YJ_move rfl) ?_
  refine AJ_y 1 rfl (by kernel_rfl) (by kernel_rfl) rfl rfl (YJ_move rfl) ?_
  refine AJ_y 2 rfl (by kernel_rfl) (by kernel_rfl) rfl rfl (YJ_ixArr rfl rfl arrt_34 (by omega) (by omega) rfl) ?_
  refine AJ_y 3 rfl (by kernel_rfl) (by kernel_rfl) rfl rfl (YJ_loadL rfl tyi_3 m0 rfl) ?_
  refine AJ_y 4 rfl (by kernel_rfl) (by kernel_rfl) rfl rfl (YJ_move rfl) ?_
  refine AJ_y 5 rfl (by kernel_rfl) (by kernel_rfl) rfl rfl (YJ_bin rfl rfl (iop_add (by omega))) ?_
  refine AJ_y 6 rfl (by kernel_rfl) (by kernel_rfl) rfl rfl (YJ_rem rfl rfl (by first | decide | omega)) ?_
  refine AJ_val (v := .int .i64 0) (rfl) ?_
  refine AJ_y 7 rfl (by kernel_rfl) (by kernel_rfl) rfl rfl (YJ_ixArr rfl rfl arrt_34 (by omega) (by omega) rfl) ?_
  refine AJ_y 8 rfl (by kernel_rfl) (by kernel_rfl) rfl rfl (YJ_loadL rfl tyi_3 m0 rfl) ?_
  refine AJ_call1 9 2 rfl (by kernel_rfl) rfl rfl rfl rfl rfl rfl (link_c (t := 3) (i := 1) (u := 1) (j := 0) (f := false) (by simp [newM0, MD.make, MD.link]; try omega) (by simp [newM0, MD.make, MD.link]; try omega) (by decide) (by decide)) (fun _ h => nomatch h) (AllIn.sub (And.intro m0 (And.intro m1 (trivial)))) ?_
  show AJ _ _ _ _ _ _ _ _ (_ :: _ :: _ :: _) _
  refine AJ_done (by kernel_rfl) ?_
  refine QJ_in_normal ?_
  refine QJ_then ?_
  refine CJ_reg ?_
  refine LJ_y rfl rfl (YJ_bin rfl rfl (iop_add (by omega))) ?_
  refine LJ_y rfl rfl (YJ_move rfl) ?_
  refine LJ_nil ?_
  refine QJ_thenN ?_
  refine CN_succ ?_
  refine CJ_seq ?_
  refine CJ_reg ?_
  refine LJ_y rfl rfl (YJ_bin rfl rfl rfl) ?_
  refine LJ_nil ?_
  refine QJ_then ?_
  refine CJ_seq ?_
  refine CJ_condF rfl ?_
  refine CJ_exit ?_
  refine QJ_then_exit ?_
  refine QJ_then_exit ?_
  refine QJ_in_exit ?_
  refine QJ_then ?_
  refine CJ_seq ?_
  refine CJ_reg ?_
  refine LJ_y rfl rfl (YJ_move rfl) ?_
  refine LJ_y rfl rfl (YJ_assign rfl) ?_
  refine LJ_y rfl rfl (YJ_assign rfl) ?_
  refine LJ_nil ?_
  refine QJ_then ?_
  refine CJ_ret ?_
  refine QJ_fin (.inl rfl) (μ' := [_]) (μr := [_, _]) (φ' := []) (res_tmp2 rfl rfl rfl) (permI [2] rfl) (fun _ h => nomatch h) ?_
  exact ⟨b1, trivial, rfl, rfl, rfl⟩
end Go.Proofs.Ytbanlhlggkdanaa
namespace Go.Proofs.Ytbanlhlggkdanaa
open Go.RowKit
section
variable {P : Program} (w : World)
theorem run_eqItems_ints {d : Nat} {e : TypeId} {k : IntKind} (he : tyi P e = some (false, 1)) (hk : P.underlying e = some (.int k)) (xs ys : List Int) : ∀ (is : List Nat), (∀ i ∈ is, i < xs.length ∧ i < ys.length) →
  (Op.eqItems (d + 1) e 1 (xs.map (Value.int k)).toArray (ys.map (Value.int k)).toArray is).run P w = .ok (is.all fun i => xs[i]? == ys[i]?) w
 | [], _ => by simp [Op.eqItems]
 | i :: is, h => by
  have h1 := h i (.head _)
  have ih := run_eqItems_ints (d := d) he hk xs ys is (fun j hj => h j (.tail _ hj))
  have p1 : (part e (xs.map (Value.int k)).toArray (i * 1)).run P w = .ok (.int k xs[i]) w := run_part1 he (by rw [lget_eq]; simp [h1.1]) w
  have p2 : (part e (ys.map (Value.int k)).toArray (i * 1)).run P w = .ok (.int k ys[i]) w := run_part1 he (by rw [lget_eq]; simp [h1.2]) w
  simp only [Op.eqItems, Sem.run_bind, p1, p2, Result.andThen_ok, run_equalIn_int w d e k k _ _ hk, List.all_cons]
  rw [List.getElem?_eq_getElem h1.1, List.getElem?_eq_getElem h1.2]
  by_cases e1 : xs[i] = ys[i]
  ·simp [e1, ih]
  ·simp [e1]
end
theorem run_eqArr2 {P : Program} (w : World) {t e : TypeId} {i : TypeInfo} (hu : P.underlying t = some (.array 2 e)) (hi : P.info? e = some i) (hs : P.cellsOf e = 1) (he : tyi P e = some (false, 1)) (hk : P.underlying e = some (.int .i64)) (a b c d : Int) :
  (Op.equalIn 10000 t (.agg #[.int .i64 a, .int .i64 b]) (.agg #[.int .i64 c, .int .i64 d])).run P w = .ok (decide (a = c) && decide (b = d)) w := by
 rw [show (10000 : Nat) = 9999 + 1 from rfl, run_equalIn_array w 9999 _ _ hu hi, hs]
 have := run_eqItems_ints (P := P) w (d := 9998) he hk [a, b] [c, d] (List.range 2) (fun i hi => by simpa using hi)
 refine Eq.trans this ?_
 simp [List.range_succ]
 by_cases h1 : a = c <;> by_cases h2 : b = d <;> simp [h1, h2]
theorem run_eqArr3 {P : Program} (w : World) {t e : TypeId} {i : TypeInfo} (hu : P.underlying t = some (.array 3 e)) (hi : P.info? e = some i) (hs : P.cellsOf e = 1) (he : tyi P e = some (false, 1)) (hk : P.underlying e = some (.int .i64)) (a b c a' b' c' : Int) :
  (Op.equalIn 10000 t (.agg #[.int .i64 a, .int .i64 b, .int .i64 c]) (.agg #[.int .i64 a', .int .i64 b', .int .i64 c'])).run P w = .ok (decide (a = a') && decide (b = b') && decide (c = c')) w := by
 rw [show (10000 : Nat) = 9999 + 1 from rfl, run_equalIn_array w 9999 _ _ hu hi, hs]
 have := run_eqItems_ints (P := P) w (d := 9998) he hk [a, b, c] [a', b', c'] (List.range 3) (fun i hi => by simpa using hi)
 refine Eq.trans this ?_
 simp [List.range_succ]
 by_cases h1 : a = a' <;> by_cases h2 : b = b' <;> by_cases h3 : c = c' <;> simp [h1, h2, h3]
theorem info_int : ∃ i, Try.prog.info? 3 = some i := Option.isSome_iff_exists.1 (by kernel_rfl)
theorem eqs_neq_46 (a b c d : Int) (x y : Operand) (w : World) :
  (do eqGuard .neq 46 x y (.agg #[.int .i64 a, .int .i64 b]) (.agg #[.int .i64 c, .int .i64 d]); binOp .neq 46 (.agg #[.int .i64 a, .int .i64 b]) (.agg #[.int .i64 c, .int .i64 d]) : Sem Value).run Try.prog w = .ok (.bool (!(decide (a = c) && decide (b = d)))) w := by
 obtain ⟨i, hi⟩ := info_int
 simp only [Sem.run_bind]
 rw [run_eqGuard_agg w .neq 46 x y _ _ (by kernel_rfl)]
 simp only [Result.andThen_ok, run_neq_struct]
 rw [run_eqArr2 w (by kernel_rfl) hi (by kernel_rfl) (by kernel_rfl) (by kernel_rfl)]
 rfl
theorem eqs_eql_46 (a b c d : Int) (x y : Operand) (w : World) :
  (do eqGuard .eql 46 x y (.agg #[.int .i64 a, .int .i64 b]) (.agg #[.int .i64 c, .int .i64 d]); binOp .eql 46 (.agg #[.int .i64 a, .int .i64 b]) (.agg #[.int .i64 c, .int .i64 d]) : Sem Value).run Try.prog w = .ok (.bool (decide (a = c) && decide (b = d))) w := by
 obtain ⟨i, hi⟩ := info_int
 simp only [Sem.run_bind]
 rw [run_eqGuard_agg w .eql 46 x y _ _ (by kernel_rfl)]
 simp only [Result.andThen_ok, run_eql_struct]
 rw [run_eqArr2 w (by kernel_rfl) hi (by kernel_rfl) (by kernel_rfl) (by kernel_rfl)]
 rfl
end Go.Proofs.Ytbanlhlggkdanaa
set_option linter.unusedSectionVars false
namespace Go.Proofs.Ytbanlhlggkdanaa
open Go.RowKit
section
variable {κ ν : Type} [DecidableEq κ]
def entV (f : κ → Value) (g : ν → Value) (e : κ × ν × Nat) : MapEntry := { key := f e.1, val := g e.2.1, born := e.2.2 }
theorem erase_map {α β : Type} (h : α → β) : ∀ (l : List α) (i : Nat), (l.map h).eraseIdx i = (l.eraseIdx i).map h
  | [], _ => rfl
  | _ :: _, 0 => rfl
  | x :: l, i + 1 => by simp [erase_map h l i]
def mfind (k : κ) : List (κ × ν × Nat) → Nat → Option (Nat × ν)
  | [], _ => none
  | e :: r, i => if k = e.1 then some (i, e.2.1) else mfind k r (i + 1)
def mget (k : κ) (l : List (κ × ν × Nat)) : Option ν := (mfind k l 0).map (·.2)
def mput (k : κ) (v : ν) (l : List (κ × ν × Nat)) (c : Nat) : List (κ × ν × Nat) := match mfind k l 0 with
  | some (i, _) => l.modify i (fun e => (e.1, v, e.2.2))
  | none => l ++ [(k, v, c)]
def mclk (k : κ) (l : List (κ × ν × Nat)) (c : Nat) : Nat := match mfind k l 0 with
  | some _ => c
  | none => c + 1
def mdel (k : κ) (l : List (κ × ν × Nat)) : List (κ × ν × Nat) := match mfind k l 0 with
  | some (i, _) => l.eraseIdx i
  | none => l
theorem mfind_key {k : κ} : ∀ {l : List (κ × ν × Nat)} {b i : Nat} {v : ν}, mfind k l b = some (i, v) → b ≤ i ∧ ∃ e, l[i - b]? = some e ∧ e.1 = k ∧ e.2.1 = v
  | [], b, i, v, h => by simp [mfind] at h
  | e :: r, b, i, v, h => by
    unfold mfind at h
    split at h
    · rename_i hk
      simp only [Option.some.injEq, Prod.mk.injEq] at h
      obtain ⟨rfl, rfl⟩ := h
      exact ⟨Nat.le_refl _, e, by simp, hk.symm, rfl⟩
    · obtain ⟨h1, e', h2, h3, h4⟩ := mfind_key h
      refine ⟨by omega, e', ?_, h3, h4⟩
      rw [show i - b = (i - (b + 1)) + 1 by omega]
      simpa using h2
structure KeyT (P : Program) (kt : TypeId) (f : κ → Value) : Prop where
  chk : ∀ (e : Bool) (k : κ) (w : World), (Instr.checkKey e 10000 kt (f k)).run P w = .ok () w
  find : ∀ {ν : Type} (g : ν → Value) (k : κ) (l : List (κ × ν × Nat)) (w : World), (Instr.findKey kt (f k) (l.map (entV f g))).run P w = .ok ((mfind k l 0).map fun p => (p.1, g p.2)) w
  same : ∀ k, Instr.sameBits 10000 (f k) (f k) = true
theorem run_findAsk {P : Program} {kt : TypeId} {f : κ → Value} (hE : ∀ a b w, (Op.equal kt (f a) (f b)).run P w = .ok (decide (a = b)) w) (g : ν → Value) (k : κ) :
    ∀ (l : List (κ × ν × Nat)) (i : Nat) (w : World), (Instr.findAsking kt (f k) (l.map (entV f g)) i).run P w = .ok ((mfind k l i).map fun p => (p.1, g p.2)) w
  | [], i, w => by simp [Instr.findAsking, mfind]
  | e :: r, i, w => by
    have ih := run_findAsk hE g k r (i + 1) w
    simp only [List.map_cons, Instr.findAsking, Sem.run_bind]
    rw [show (entV f g e).key = f e.1 from rfl, hE k e.1 w]
    unfold mfind
    by_cases hk : k = e.1
    · simp [hk, entV]
    · simp only [hk, decide_false, Result.andThen_ok, if_false]
      exact ih
def mapR (r : Nat) (f : κ → Value) (g : ν → Value) (l : List (κ × ν × Nat)) (c : Nat) : Res := objR r (.map (l.map (entV f g)).toArray c)
end
theorem keyInt {P : Program} {kt : TypeId} {q : IntKind} (hu : P.underlying kt = some (.int q)) : KeyT P kt (fun (x : Int) => Value.int .i64 x) where
  chk e k w := by
    rw [show (10000 : Nat) = 9999 + 1 from rfl]
    generalize 9999 = n
    simp [Instr.checkKey, run_underlying hu]
  find := fun {ν} g k l w => by
    have key : ∀ (l : List (Int × ν × Nat)) (i : Nat), Instr.findNow (.int q) (.int .i64 k) (l.map (entV (fun (x : Int) => Value.int .i64 x) g)) i = some ((mfind k l i).map fun p => (p.1, g p.2)) := by
      intro l
      induction l with
      | nil => intro i; rfl
      | cons e r ih =>
        intro i
        simp only [List.map_cons, Instr.findNow, entV, Instr.sameNow, if_true]
        unfold mfind
        by_cases hk : k = e.1
        · simp [hk]
        · have : (k == e.1) = false := by simpa using hk
          simp only [this, hk, if_false]
          exact ih (i + 1)
    simp [Instr.findKey, run_underlying hu, key]
  same k := by
    rw [show (10000 : Nat) = 9999 + 1 from rfl]
    generalize 9999 = n
    simp [Instr.sameBits]
theorem keyTwo {P : Program} {kt : TypeId} (hw : (match P.underlying kt with | some (.array _ _) | some (.struct _) => true | _ => false) = true)
    (hc : ∀ (e : Bool) (a b : Int) (w : World), (Instr.checkKey e 10000 kt (.agg #[.int .i64 a, .int .i64 b])).run P w = .ok () w)
    (hE : ∀ (a b c d : Int) (w : World), (Op.equal kt (.agg #[.int .i64 a, .int .i64 b]) (.agg #[.int .i64 c, .int .i64 d])).run P w = .ok (decide (a = c) && decide (b = d)) w) : KeyT P kt (fun (x : Int × Int) => Value.agg #[.int .i64 x.1, .int .i64 x.2]) where
  chk e k w := hc e k.1 k.2 w
  find := fun {ν} g k l w => by
    rw [run_findKey_eq w hw]
    refine run_findAsk (f := fun (x : Int × Int) => Value.agg #[.int .i64 x.1, .int .i64 x.2]) (fun a b w => ?_) g k l 0 w
    rw [hE]
    congr 1
    by_cases h1 : a.1 = b.1 <;> by_cases h2 : a.2 = b.2 <;> simp [Prod.ext_iff, h1, h2]
  same k := by
    rw [show (10000 : Nat) = 9998 + 1 + 1 from rfl]
    generalize 9998 = n
    simp [Instr.sameBits]
section
variable {κ ν : Type} [DecidableEq κ] {f : κ → Value} {g : ν → Value} {l : List (κ × ν × Nat)} {c r : Nat}
variable {E : Env} {ty : TypeId} {σ : List (Nat × Value)} {μ φ : List Res}
def MapAt (μ φ : List Res) (r : Nat) (es : Array MapEntry) (c : Nat) : Prop := ∀ w, Hold w μ → Hold w φ → w.heap[r]? = some (.map es c)
theorem MapAt_own (hm : mapR r f g l c ∈ μ) : MapAt μ φ r (l.map (entV f g)).toArray c := fun w h1 _ => by
  obtain ⟨S, h, _⟩ := h1 _ hm
  exact h
theorem MapAt_fact (hm : mapR r f g l c ∈ φ) : MapAt μ φ r (l.map (entV f g)).toArray c := fun w _ h2 => by
  obtain ⟨S, h, _⟩ := h2 _ hm
  exact h
theorem OJ_makeMap {t : TypeId} : OJ E (.makeMap t none) ty σ μ φ (fun v μ' φ' => ∃ b, v = .map (some b) ∧ μ' = objR b (.map #[] 0) :: μ ∧ φ' = φ) := fun a w d pos af gd K Q hs hm hK => by
  have : (execOp a.eval ⟨d, .makeMap t none, ty, pos, af, gd⟩).run E.P w = .ok (.value (.map (some w.heap.size))) (w.alloc (.map #[] 0)) := by
    simp only [execOp, Option.map_none]
    simp [Instr.makeMap, run_newObj_alloc]
  unfold Oper.wp
  rw [this, Oper.upon_value]
  exact hK _ _ _ _ ⟨w.heap.size, rfl, rfl, rfl⟩ (hm.newObj _)
theorem run_lookup {P : Program} {t kt et : TypeId} {z : Value} {w : World} {k : κ} (hu : P.underlying t = some (.map kt et)) (hK : KeyT P kt f) (hz : zer P et = some z) (hb : w.heap[r]? = some (.map (l.map (entV f g)).toArray c)) (ok : Bool) :
    (Instr.lookup t (.map (some r)) (f k) ok).run P w = .ok (if ok then .tuple #[((mget k l).map g).getD z, .bool (mget k l).isSome] else ((mget k l).map g).getD z) w := by
  have h1 := hK.chk (l.map (entV f g)).toArray.isEmpty k w
  have h2 := hK.find g k l w
  simp only [Instr.lookup, Sem.run_bind, run_underlying hu, Result.andThen_ok, MapKept.run_getObj_map hb, Sem.run_pure, h1, h2]
  unfold mget
  cases hf : mfind k l 0 with
  | none => cases ok <;> simp [run_zeroValue' hz]
  | some p => cases ok <;> simp
theorem YJ_lookup {t kt et : TypeId} {x y : Operand} {z : Value} {k : κ} {ok : Bool} {v : Value} (hx : oev σ x = some (.map (some r))) (hy : oev σ y = some (f k)) (hu : E.P.underlying t = some (.map kt et)) (hK : KeyT E.P kt f) (hz : zer E.P et = some z) (hm : MapAt μ φ r (l.map (entV f g)).toArray c)
    (hv : (if ok then .tuple #[((mget k l).map g).getD z, .bool (mget k l).isSome] else ((mget k l).map g).getD z) = v) : YJ E (.lookup t x y ok) ty σ μ φ v := fun a w d pos af gd hs h1 h2 => by
  subst hv
  simp only [execOp, hs.ev hx, hs.ev hy]
  simp [run_lookup (k := k) hu hK hz (hm w h1 h2) ok]
theorem YJ_lenMap {x : Operand} {t kt et : TypeId} {n : Nat} (hx : oev σ x = some (.map (some r))) (hu : E.P.underlying t = some (.map kt et)) (hm : MapAt μ φ r (l.map (entV f g)).toArray c) (hn : l.length = n) :
    YJ E (.call { callee := .builtin .len, args := #[x], argTypes := #[t] }) ty σ μ φ (.int .i64 n) := fun a w d pos af gd hs h1 h2 => by
  subst hn
  simp only [execOp, hs.ev hx]
  have hb := hm w h1 h2
  simp [resolve, invoke, builtin, hs.ev hx, Builtin.len_, run_underlying hu, MapKept.run_getObj_map hb, goInt]
theorem OJ_putObj {k : Nat} {op : Op} {b : Nat} {o o' : Obj} (hk : μ[k]? = some (objR b o)) {nx : Next} {v : Value} (hnx : nx = .skip ∨ nx = .value v)
    (hr : ∀ a w d pos af gd, Slots σ a → OKm E μ φ w → w.heap[b]? = some o → (execOp a.eval ⟨d, op, ty, pos, af, gd⟩).run E.P w = .ok nx (w.putObj b o')) :
    OJ E op ty σ μ φ (fun u μ' φ' => (nx = .value v → u = v) ∧ μ' = μ.set k (objR b o') ∧ φ' = φ) := fun a w d pos af gd K Q hs hm hK => by
  have h1 : OKm E (objR b o :: μ.eraseIdx k) φ w := hm.weak (μr := []) (by simpa using perm_at hk) (fun _ h => h)
  have h2 := hr a w d pos af gd hs hm h1.objAt
  have h3 : OKm E (μ.set k (objR b o')) φ (w.putObj b o') := (h1.putObj o').weak (μr := []) (by simpa using perm_set _ hk) (fun _ h => h)
  unfold Oper.wp
  rcases hnx with rfl | rfl
  · rw [h2, Oper.upon_skip]
    exact hK _ _ _ _ ⟨(fun h => nomatch h), rfl, rfl⟩ h3
  · rw [h2, Oper.upon_value]
    exact hK _ _ _ _ ⟨fun _ => rfl, rfl, rfl⟩ h3
theorem modify_ent {l : List (κ × ν × Nat)} {i : Nat} {v : ν} {e : κ × ν × Nat} (he : l[i]? = some e) : (l.map (entV f g)).toArray.modify i (fun q => { q with key := f e.1, val := g v }) = ((l.modify i (fun e => (e.1, v, e.2.2))).map (entV f g)).toArray := by
  apply Array.toList_inj.1
  apply List.ext_getElem?
  intro j
  simp only [Array.toList_modify, List.getElem?_modify, List.getElem?_map]
  by_cases hj : i = j
  · subst hj
    simp [he, entV]
  · simp [hj]
theorem OJ_mapUpdate {t kt et : TypeId} {x y z : Operand} {k : κ} {v : ν} {l' : List (κ × ν × Nat)} {c' : Nat} (n : Nat) (hk : μ[n]? = some (mapR r f g l c)) (hx : oev σ x = some (.map (some r))) (hy : oev σ y = some (f k)) (hz : oev σ z = some (g v)) (hu : E.P.underlying t = some (.map kt et)) (hK : KeyT E.P kt f)
    (hl : mput k v l c = l') (hc : mclk k l c = c') : OJ E (.mapUpdate t x y z) ty σ μ φ (fun _ μ' φ' => μ' = μ.set n (mapR r f g l' c') ∧ φ' = φ) := by
  subst hl; subst hc
  refine OJ_conv (OJ_putObj (o' := .map ((mput k v l c).map (entV f g)).toArray (mclk k l c)) hk (nx := .skip) (v := undef) (.inl rfl) ?_) (fun u μ' φ' h => ⟨_, ⟨h.2.1, h.2.2⟩, List.Perm.refl _⟩)
  intro a w d pos af gd hs hm hb
  have h1 := hK.chk false k w
  have h2 := hK.find g k l w
  simp only [execOp, hs.ev hx, hs.ev hy, hs.ev hz]
  simp only [Instr.mapUpdate, Sem.run_bind, run_underlying hu, Result.andThen_ok, MapKept.run_getObj_map hb, h1, h2]
  unfold mput mclk
  cases hf : mfind k l 0 with
  | none =>
    simp only [Option.map_none, MapKept.run_setObj_map _ hb]
    simp [World.putObj, entV]
  | some p =>
    obtain ⟨i, v0⟩ := p
    obtain ⟨_, e, he, hek, _⟩ := mfind_key hf
    simp only [Nat.sub_zero] at he
    have hkey : ((((l.map (entV f g)).toArray)[i]?).map (·.key)).getD (f k) = f k := by
      simp [he, entV, hek]
    have hks : (Instr.keyThatStays (f k) (f k)).run E.P w = .ok (f k) w := by
      unfold Instr.keyThatStays
      simp [hK.same k]
    have hmod := modify_ent (f := f) (g := g) (v := v) he
    rw [hek] at hmod
    simp only [Option.map_some, Sem.run_bind, hkey, hks, Result.andThen_ok, MapKept.run_setObj_map _ hb]
    simp only [World.putObj, hmod]
    rfl
theorem OJ_delete {t kt et t2 : TypeId} {x y : Operand} {k : κ} {l' : List (κ × ν × Nat)} (n : Nat) (hk : μ[n]? = some (mapR r f g l c)) (hx : oev σ x = some (.map (some r))) (hy : oev σ y = some (f k)) (hu : E.P.underlying t = some (.map kt et)) (hK : KeyT E.P kt f)
    (hl : mdel k l = l') : OJ E (.call { callee := .builtin .delete, args := #[x, y], argTypes := #[t, t2] }) ty σ μ φ (fun v μ' φ' => v = .tuple #[] ∧ μ' = μ.set n (mapR r f g l' c) ∧ φ' = φ) := by
  subst hl
  refine OJ_conv (OJ_putObj (o' := .map ((mdel k l).map (entV f g)).toArray c) hk (nx := .value (.tuple #[])) (v := .tuple #[]) (.inr rfl) ?_) (fun u μ' φ' h => ⟨_, ⟨h.1 rfl, h.2.1, h.2.2⟩, List.Perm.refl _⟩)
  intro a w d pos af gd hs hm hb
  have h1 := hK.chk (l.map (entV f g)).toArray.isEmpty k w
  have h2 := hK.find g k l w
  simp only [execOp, resolve, invoke, builtin, Sem.run_bind, Sem.run_pure, Result.andThen_ok, List.map_toArray, List.map_cons, List.map_nil, hs.ev hx, hs.ev hy]
  simp only [Builtin.delete_, Sem.run_bind, List.getElem?_toArray, List.getElem?_cons_zero, List.getElem?_cons_succ, run_underlying hu, Result.andThen_ok, MapKept.run_getObj_map hb, h1, h2]
  unfold mdel
  cases hf : mfind k l 0 with
  | none =>
    simp [MapKept.run_setObj_map _ hb, World.putObj]
  | some p =>
    obtain ⟨i, v0⟩ := p
    have : ((l.map (entV f g)).toArray).eraseIdxIfInBounds i = ((l.eraseIdx i).map (entV f g)).toArray := by
      apply Array.toList_inj.1
      simp [erase_map]
    simp [MapKept.run_setObj_map _ hb, World.putObj, this]
def itR (it r since : Nat) (seen : List Nat) (c0 : Nat) : Res := objR it (.mapIter (some r) since seen.toArray c0)
theorem OJ_range {t kt et : TypeId} {x : Operand} (hx : oev σ x = some (.map (some r))) (hu : E.P.underlying t = some (.map kt et)) (hm : MapAt μ φ r (l.map (entV f g)).toArray c) :
    OJ E (.range t x) ty σ μ φ (fun v μ' φ' => ∃ b, v = .pointer (some ⟨b, 0, none⟩) ∧ μ' = itR b r c [] c :: μ ∧ φ' = φ) := fun a w d pos af gd K Q hs hm0 hK => by
  have hb := hm w hm0.hold.1 hm0.hold.2
  have : (execOp a.eval ⟨d, .range t x, ty, pos, af, gd⟩).run E.P w = .ok (.value (.pointer (some ⟨w.heap.size, 0, none⟩))) (w.alloc (.mapIter (some r) c #[] c)) := by
    simp only [execOp, hs.ev hx]
    simp [run_range_map w t kt et r _ c hu hb]
  unfold Oper.wp
  rw [this, Oper.upon_value]
  exact hK _ _ _ _ ⟨w.heap.size, rfl, rfl, rfl⟩ (hm0.newObj _)
def leftL (l : List (κ × ν × Nat)) (seen : List Nat) : List (κ × ν × Nat) := l.filter fun e => !seen.contains e.2.2
theorem left_map (l : List (κ × ν × Nat)) (seen : List Nat) : (leftOf (l.map (entV f g)).toArray seen.toArray).toList = (leftL l seen).map (entV f g) := by
  unfold leftOf leftL
  rw [Array.toList_filter]
  simp only [List.contains_toArray]
  induction l with
  | nil => rfl
  | cons e l ih =>
    simp only [List.map_cons, List.filter_cons]
    rw [show (entV f g e).born = e.2.2 from rfl, ih]
    split <;> rfl
theorem OJ_next {x : Operand} {it since c0 : Nat} {seen : List Nat} (n : Nat) (hk : μ[n]? = some (itR it r since seen c0)) (hx : oev σ x = some (.pointer (some ⟨it, 0, none⟩))) (hm : MapAt μ φ r (l.map (entV f g)).toArray c)
    (hold : ∀ e ∈ l, e.2.2 < since) (hsc : since ≤ c0) :
    OJ E (.next x false) ty σ μ φ (fun v μ' φ' => (leftL l seen = [] ∧ v = .tuple #[.bool false] ∧ μ' = μ ∧ φ' = φ) ∨
      ∃ e ∈ leftL l seen, v = .tuple #[.bool true, f e.1, g e.2.1] ∧ μ' = μ.set n (itR it r since (seen ++ [e.2.2]) c) ∧ φ' = φ) := fun a w d pos af gd K Q hs hm0 hK => by
  have h1 : OKm E (objR it (.mapIter (some r) since seen.toArray c0) :: μ.eraseIdx n) φ w := hm0.weak (μr := []) (by rw [List.append_nil]; exact perm_at hk) (fun _ h => h)
  have hb := hm w hm0.hold.1 hm0.hold.2
  have hh : ∀ e' ∈ (l.map (entV f g)).toArray.toList, e'.born < since := by
    intro e' he'
    simp only [List.mem_map] at he'
    obtain ⟨e, he, rfl⟩ := he'
    exact hold e he
  rcases run_next_at (P := E.P) w ty it r since c0 seen.toArray _ c h1.objAt hb hh hsc with ⟨h0, hr⟩ | ⟨e', he', w1, hw1, hr⟩
  · have : (execOp a.eval ⟨d, .next x false, ty, pos, af, gd⟩).run E.P w = .ok (.value (.tuple #[.bool false])) w := by
      simp only [execOp, hs.ev hx]
      simp [hr]
    unfold Oper.wp
    rw [this, Oper.upon_value]
    refine hK _ _ _ _ (.inl ⟨?_, rfl, rfl, rfl⟩) hm0
    have e0 : (leftOf (l.map (entV f g)).toArray seen.toArray).toList.length = 0 := by simpa using h0
    rw [left_map] at e0
    simpa using e0
  · rw [left_map] at he'
    obtain ⟨e, he, rfl⟩ := List.mem_map.1 he'
    have : (execOp a.eval ⟨d, .next x false, ty, pos, af, gd⟩).run E.P w = .ok (.value (.tuple #[.bool true, f e.1, g e.2.1])) (w1.putObj it (.mapIter (some r) since (seen ++ [e.2.2]).toArray c)) := by
      simp only [execOp, hs.ev hx]
      simp [hr, entV, ChangeMaps.setBlock, World.putObj]
    unfold Oper.wp
    rw [this, Oper.upon_value]
    have h2 : OKm E (objR it (.mapIter (some r) since seen.toArray c0) :: μ.eraseIdx n) φ w1 := by
      rcases hw1 with rfl | rfl
      · exact h1
      · exact h1.drew
    exact hK _ _ _ _ (.inr ⟨e, he, rfl, rfl, rfl⟩) ((h2.putObj _).weak (μr := []) (by rw [List.append_nil]; exact perm_set _ hk) (fun _ h => h))
theorem YJ_entry {x : Operand} {it since : Nat} {seen : List Nat} {e : κ × ν × Nat} (hx : oev σ x = some (.pointer (some ⟨it, 0, none⟩))) (hit : itR it r since (seen ++ [e.2.2]) c ∈ μ) (hm : MapAt μ φ r (l.map (entV f g)).toArray c) (he : e ∈ l) (hn : (l.map (·.2.2)).Nodup) :
    YJ E (.entry x) ty σ μ φ (.tuple #[f e.1, g e.2.1]) := fun a w d pos af gd hs h1 h2 => by
  obtain ⟨S, h, _⟩ := h1 _ hit
  have hb := hm w h1 h2
  have h' : w.heap[it]? = some (.mapIter (some r) since (seen.toArray.push (entV f g e).born) c) := by
    rw [h]
    simp [entV]
  have := run_entry_at (P := E.P) w it r since seen.toArray _ c (entV f g e) h' hb (by simpa using ⟨e.1, e.2.1, e.2.2, he, rfl⟩) (by
    have e1 : (l.map (entV f g)).toArray.toList.map (·.born) = l.map (·.2.2) := by simp [entV, Function.comp_def]
    rw [e1]; exact hn)
  simp only [execOp, hs.ev hx]
  simp [this, entV]
variable {Q : Qt} {ops : Array Oper} {rest : List Oper} {d : Tmp} {pos : String} {af : Array Edge} {gd : Option (Nat × Bool)} {ml pl : List Res} {fuel : Nat} {listed : Array Bool} {M : List (Res × List Nat)}
theorem LJ_makeMap {t : TypeId} (hg : grd ops σ gd = some true) (hd : Nat.blt d E.N = true) (h : ∀ b, LJ E Q ops rest ((d, .map (some b)) :: σ) (objR b (.map #[] 0) :: μ) φ) : LJ E Q ops (⟨some d, .makeMap t none, ty, pos, af, gd⟩ :: rest) σ μ φ :=
  LJ_o hg hd OJ_makeMap (by rintro _ _ _ ⟨b, rfl, rfl, rfl⟩; exact h b)
theorem LJ_mapUpdate {t kt et : TypeId} {x y z : Operand} {k : κ} {v : ν} {l' : List (κ × ν × Nat)} {c' : Nat} (n : Nat) (hg : grd ops σ gd = some true) (hk : μ[n]? = some (mapR r f g l c)) (hx : oev σ x = some (.map (some r))) (hy : oev σ y = some (f k)) (hz : oev σ z = some (g v)) (hu : E.P.underlying t = some (.map kt et)) (hK : KeyT E.P kt f)
    (hl : mput k v l c = l') (hc : mclk k l c = c') (h : LJ E Q ops rest σ (μ.set n (mapR r f g l' c')) φ) : LJ E Q ops (⟨none, .mapUpdate t x y z, ty, pos, af, gd⟩ :: rest) σ μ φ :=
  LJ_o0 hg (OJ_mapUpdate n hk hx hy hz hu hK hl hc) (by rintro _ _ _ ⟨rfl, rfl⟩; exact h)
theorem AJ_mapUpdate {t kt et : TypeId} {x y z : Operand} {k : κ} {v : ν} {l' : List (κ × ν × Nat)} {c' : Nat} (i n : Nat) (hi : ops[i]? = some ⟨none, .mapUpdate t x y z, ty, pos, af, gd⟩) (hr : Region.ready .any ops listed = [i]) (hg : grd ops σ gd = some true) (hk : μ[n]? = some (mapR r f g l c)) (hx : oev σ x = some (.map (some r))) (hy : oev σ y = some (f k)) (hz : oev σ z = some (g v)) (hu : E.P.underlying t = some (.map kt et)) (hK : KeyT E.P kt f)
    (hl : mput k v l c = l') (hc : mclk k l c = c') (hml : ∀ q, q ∈ ml → q ∈ μ.set n (mapR r f g l' c')) (h : AJ E Q ops ml pl fuel (listed.setIfInBounds i true) σ (μ.set n (mapR r f g l' c')) φ) : AJ E Q ops ml pl (fuel + 1) listed σ μ φ :=
  AJ_o0 i hi hr hg (OJ_mapUpdate n hk hx hy hz hu hK hl hc) (by rintro _ _ _ ⟨rfl, rfl⟩; exact ⟨fun _ => hml, fun _ _ h => h, h⟩)
theorem LJ_delete {t kt et t2 : TypeId} {x y : Operand} {k : κ} {l' : List (κ × ν × Nat)} (n : Nat) (hg : grd ops σ gd = some true) (hk : μ[n]? = some (mapR r f g l c)) (hx : oev σ x = some (.map (some r))) (hy : oev σ y = some (f k)) (hu : E.P.underlying t = some (.map kt et)) (hK : KeyT E.P kt f)
    (hl : mdel k l = l') (h : LJ E Q ops rest σ (μ.set n (mapR r f g l' c)) φ) : LJ E Q ops (⟨none, .call { callee := .builtin .delete, args := #[x, y], argTypes := #[t, t2] }, ty, pos, af, gd⟩ :: rest) σ μ φ :=
  LJ_o0 hg (OJ_delete n hk hx hy hu hK hl) (by rintro _ _ _ ⟨_, rfl, rfl⟩; exact h)
theorem LJ_range {t kt et : TypeId} {x : Operand} (hg : grd ops σ gd = some true) (hd : Nat.blt d E.N = true) (hx : oev σ x = some (.map (some r))) (hu : E.P.underlying t = some (.map kt et)) (hm : MapAt μ φ r (l.map (entV f g)).toArray c)
    (h : ∀ b, LJ E Q ops rest ((d, .pointer (some ⟨b, 0, none⟩)) :: σ) (itR b r c [] c :: μ) φ) : LJ E Q ops (⟨some d, .range t x, ty, pos, af, gd⟩ :: rest) σ μ φ :=
  LJ_o hg hd (OJ_range hx hu hm) (by rintro _ _ _ ⟨b, rfl, rfl, rfl⟩; exact h b)
theorem LJ_next {x : Operand} {it since c0 : Nat} {seen : List Nat} (n : Nat) (hg : grd ops σ gd = some true) (hd : Nat.blt d E.N = true) (hk : μ[n]? = some (itR it r since seen c0)) (hx : oev σ x = some (.pointer (some ⟨it, 0, none⟩))) (hm : MapAt μ φ r (l.map (entV f g)).toArray c)
    (hold : ∀ e ∈ l, e.2.2 < since) (hsc : since ≤ c0) (h0 : leftL l seen = [] → LJ E Q ops rest ((d, .tuple #[.bool false]) :: σ) μ φ) (h1 : ∀ e, e ∈ leftL l seen → LJ E Q ops rest ((d, .tuple #[.bool true, f e.1, g e.2.1]) :: σ) (μ.set n (itR it r since (seen ++ [e.2.2]) c)) φ) : LJ E Q ops (⟨some d, .next x false, ty, pos, af, gd⟩ :: rest) σ μ φ :=
  LJ_o hg hd (OJ_next n hk hx hm hold hsc) (by rintro _ _ _ (⟨h, rfl, rfl, rfl⟩ | ⟨e, he, rfl, rfl, rfl⟩); exact h0 h; exact h1 e he)
theorem LJ_callP {ι : Type} {C : ι → Prop} {fv : ι → Value} {mf gf : ι → List Res} {x : Operand} {xs : Array Operand} {at_ : Array TypeId} {fn : FuncId} {cap : Array Value} {vs vs' : List Value} {μ1 μr φ1 : List Res} (hp : List.Perm μ (μ1 ++ μr)) (hg : grd ops σ gd = some true) (hd : Nat.blt d E.N = true) (hx : oev σ x = some (.func (.func fn) #[] cap)) (hxs : oevs σ xs.toList = some vs) (hv : vs ++ cap.toList = vs')
    (ht : Tri E.P fn vs' μ1 φ1 (RetX C fv mf gf)) (hφ : ∀ r, r ∈ φ1 → r ∈ φ) (h : ∀ x, C x → LJ E Q ops rest ((d, fv x) :: σ) (mf x ++ μr) (gf x ++ φ)) : LJ E Q ops (⟨some d, .call { callee := .value x, args := xs, argTypes := at_ }, ty, pos, af, gd⟩ :: rest) σ μ φ := by
  subst hv
  exact LJ_o hg hd (OJ_call hx hxs ht hp hφ) (by rintro _ _ _ ⟨_, _, ⟨x, hc, rfl, rfl, rfl⟩, rfl, rfl⟩; exact h x hc)
theorem AJ_callP {ι : Type} {C : ι → Prop} {fv : ι → Value} {mf gf : ι → List Res} {x : Operand} {xs : Array Operand} {at_ : Array TypeId} {fn : FuncId} {cap : Array Value} {vs vs' : List Value} {μ1 μr φ1 : List Res} (i : Nat) (hi : ops[i]? = some ⟨some d, .call { callee := .value x, args := xs, argTypes := at_ }, ty, pos, af, gd⟩) (hr : Region.ready .any ops listed = [i]) (hp : List.Perm μ (μ1 ++ μr)) (hg : grd ops σ gd = some true) (hd : Nat.blt d E.N = true) (hx : oev σ x = some (.func (.func fn) #[] cap)) (hxs : oevs σ xs.toList = some vs) (hv : vs ++ cap.toList = vs')
    (ht : Tri E.P fn vs' μ1 φ1 (RetX C fv mf gf)) (hφ : ∀ r, r ∈ φ1 → r ∈ φ) (hml : ∀ x q, q ∈ ml → q ∈ mf x ++ μr) (h : ∀ x, C x → AJ E Q ops ml pl fuel (listed.setIfInBounds i true) ((d, fv x) :: σ) (mf x ++ μr) (gf x ++ φ)) : AJ E Q ops ml pl (fuel + 1) listed σ μ φ := by
  subst hv
  exact AJ_o i hi hr hg hd (OJ_call hx hxs ht hp hφ) (by rintro _ _ _ ⟨_, _, ⟨x, hc, rfl, rfl, rfl⟩, rfl, rfl⟩; exact ⟨fun q hq _ => hml x q hq, fun _ _ h => List.mem_append_right _ h, h x hc⟩)
end
section
variable {E : Env} {Q : Qt} {ops : Array Oper} {ml pl : List Res} {A : List Al} {fuel : Nat} {L : Array Bool} {σ : List (Nat × Value)} {μ φ : List Res}
theorem AA_oN {ι : Type} {C : ι → Prop} {fv : ι → Value} {mf gf : ι → List Res} (i : Nat) {d : Tmp} {op : Op} {ty : TypeId} {pos : String} {af : Array Edge} {g : Option (Nat × Bool)} (hi : ops[i]? = some ⟨some d, op, ty, pos, af, g⟩)
    (hc : allBits A.length (fun bs => (Region.ready .any ops (lsB A bs L)).all (fun j => Nat.beq j i || (pendB A bs).contains j) && !(Region.ready .any ops (lsB A bs L)).isEmpty) = true)
    (hfr : Frs σ A = true)
    (hg : grd ops σ g = some true) (hd : Nat.blt d E.N = true) (hda : (dsts A).contains d = false) (ho : ∀ μ', OJ E op ty σ μ' φ (fun v μ'' φ' => ∃ x, C x ∧ v = fv x ∧ μ'' = mf x ++ μ' ∧ φ' = gf x ++ φ))
    (h : ∀ x, C x → AA E Q ops ml pl A fuel (L.setIfInBounds i true) ((d, fv x) :: σ) (mf x ++ μ) (gf x ++ φ)) : AA E Q ops ml pl A (fuel + 1) L σ μ φ := fun hok hnd hsz hsel hQ hml hpl => by
  have main : ∀ n st, pend st = n → st.length = A.length → ∀ a w, OKa E σ a → Slots (σA A st) a → OKm E (μA A st ++ μ) φ w → wpAnyH E.P .any ops Q (fun w => Hold w ml ∧ Hold w pl) (fuel + 1 + pend st) (lsB A (bts st) L) a w := by
    intro n
    induction n with
    | zero => ?_
    | succ n ih => ?_
    all_goals
      intro st hn hst a w ha hs hm
      have hcc := allBits_spec _ _ hc (bts st) (by simpa [bts] using hst)
      simp only [Bool.and_eq_true, Bool.not_eq_true', List.all_eq_true, Bool.or_eq_true] at hcc
      rw [show fuel + 1 + pend st = (fuel + pend st) + 1 by omega]
      refine wpAnyH_all rfl (fun e => by rw [e] at hcc; simp at hcc) fun j hj => ?_
      by_cases hji : j = i
      · subst hji
        unfold wpOp
        rw [hi]
        dsimp only
        rw [if_pos (grd_wanted (o := ⟨some d, op, ty, pos, af, g⟩) ha hg)]
        refine .inl (ho (μA A st ++ μ) a w _ _ _ _ _ _ ha.slots hm ?_)
        rintro v μ' φ' w' ⟨x, hC, rfl, rfl, rfl⟩ hm0
        have hm' : OKm E (μA A st ++ (mf x ++ μ)) (gf x ++ φ) w' := hm0.weak (μr := []) (by rw [List.append_nil, ← List.append_assoc, ← List.append_assoc]; exact List.perm_append_comm.append_right μ) (fun _ h => h)
        have hin : ∀ r, r ∈ ml → r ∈ μA A st ++ (mf x ++ μ) := fun r hr => List.mem_append_right _ (List.mem_append_right _ (hml r hr))
        have e2 : ∀ r, r ∈ pl → r ∈ gf x ++ φ := fun r hr => List.mem_append_right _ (hpl r hr)
        have hrec := h x hC hok hnd hsz hsel hQ (fun r hr => List.mem_append_right _ (hml r hr)) e2 st hst (a.put (some d) (fv x)) w' (ha.put hd (fv x)) (hs.putA hda (fv x)) hm'
        rw [lsB_set] at hrec
        exact ⟨⟨hm'.hold.1.sub hin, hm'.hold.2.sub e2⟩, hrec⟩
      · have hjp : j ∈ pendB A (bts st) := by
          rcases hcc.1 j hj with h' | h'
          · exact absurd (Nat.eq_of_beq_eq_true h') hji
          · exact List.contains_iff_mem.1 h'
        refine AA_alloc hok hnd hfr hsz hml hpl hst hjp ha hs hm ?_
        intro st' hst' hp' a' w' ha' hs' hm' _
        first
          | (exfalso; omega)
          | (have := ih st' (by omega) hst' a' w' ha' hs' hm'
             rw [show fuel + pend st = fuel + 1 + pend st' by omega]
             exact this)
  intro st hst a w ha hs hm
  exact main _ st rfl hst a w ha hs hm
theorem AA_callN {ι : Type} {C : ι → Prop} {fv : ι → Value} {rf : ι → Res} {gf : ι → List Res} {d : Tmp} {ty : TypeId} {pos : String} {af : Array Edge} {g : Option (Nat × Bool)} {x : Operand} {xs : Array Operand} {at_ : Array TypeId} {fn : FuncId} {cap : Array Value} {vs vs' : List Value} {φ1 : List Res} (i : Nat) (hi : ops[i]? = some ⟨some d, .call { callee := .value x, args := xs, argTypes := at_ }, ty, pos, af, g⟩)
    (hc : allBits A.length (fun bs => (Region.ready .any ops (lsB A bs L)).all (fun j => Nat.beq j i || (pendB A bs).contains j) && !(Region.ready .any ops (lsB A bs L)).isEmpty) = true)
    (hfr : Frs σ A = true) (hg : grd ops σ g = some true) (hd : Nat.blt d E.N = true) (hda : (dsts A).contains d = false)
    (hx : oev σ x = some (.func (.func fn) #[] cap)) (hxs : oevs σ xs.toList = some vs) (hv : vs ++ cap.toList = vs') (ht : Tri E.P fn vs' [] φ1 (RetL C fv rf gf)) (hφ : ∀ r, r ∈ φ1 → r ∈ φ)
    (h : ∀ x, C x → AA E Q ops ml pl A fuel (L.setIfInBounds i true) ((d, fv x) :: σ) (rf x :: μ) (gf x ++ φ)) : AA E Q ops ml pl A (fuel + 1) L σ μ φ := by
  subst hv
  refine AA_oN (C := C) (fv := fv) (mf := fun x => [rf x]) (gf := gf) i hi hc hfr hg hd hda (fun μ' => ?_) h
  exact OJ_conv (OJ_call (μr := μ') hx hxs ht (List.Perm.refl _) hφ) (fun v μ'' φ' h => by
    obtain ⟨_, _, ⟨x, hc, rfl, rfl, rfl⟩, rfl, rfl⟩ := h
    exact ⟨_, ⟨x, hc, rfl, rfl, rfl⟩, List.Perm.refl _⟩)
end
end Go.Proofs.Ytbanlhlggkdanaa
namespace Go.Proofs.Ytbanlhlggkdanaa
open Go.RowKit
theorem tyi_144 : tyi Try.prog 144 = some (false, 1) := by kernel_rfl
theorem tyi_116 : tyi Try.prog 116 = some (false, 1) := by kernel_rfl
theorem ent_86 : Enter Try.prog 86 = true := by kernel_rfl
theorem lay_46 : lay1 Try.prog 46 = some [.int .i64 0, .int .i64 0] := by kernel_rfl
theorem umap_144 : Try.prog.underlying 144 = some (.map 46 146) := by kernel_rfl
theorem zer_146 : zer Try.prog 146 = some (.agg #[.int .i64 0, .int .i64 0]) := by kernel_rfl
theorem tyi_146 : tyi Try.prog 146 = some (true, 2) := by kernel_rfl
theorem lay_146 : lay1 Try.prog 146 = some [.int .i64 0, .int .i64 0] := by kernel_rfl
theorem fld_146_0 : fld Try.prog 146 0 = some 0 := by kernel_rfl
theorem fld_146_1 : fld Try.prog 146 1 = some 1 := by kernel_rfl
theorem umap_116 : Try.prog.underlying 116 = some (.map 46 3) := by kernel_rfl
abbrev fK : Int × Int → Value := fun x => .agg #[.int .i64 x.1, .int .i64 x.2]
abbrev gI : Int → Value := fun x => .int .i64 x
theorem check_arr2 {P : Program} (w : World) {t e : TypeId} {i : TypeInfo} {q : IntKind} (hu : P.underlying t = some (.array 2 e)) (hi : P.info? e = some i) (hs : i.size = 1) (he : tyi P e = some (false, 1)) (hk : P.underlying e = some (.int q)) (em : Bool) (a b : Int) :
  (Instr.checkKey em 10000 t (.agg #[.int .i64 a, .int .i64 b])).run P w = .ok () w := by
 rw [show (10000 : Nat) = 9998 + 1 + 1 from rfl]
 generalize 9998 = n
 have p0 : (part e #[Value.int .i64 a, Value.int .i64 b] (0 * 1)).run P w = .ok (.int .i64 a) w := run_part1 he rfl w
 have p1 : (part e #[Value.int .i64 a, Value.int .i64 b] (1 * 1)).run P w = .ok (.int .i64 b) w := run_part1 he rfl w
 have c0 : ∀ x : Int, (Instr.checkKey em (n + 1) e (.int .i64 x)).run P w = .ok () w := fun x => by simp [Instr.checkKey, run_underlying hk]
 have s0 : (sizeOf e).run P w = .ok 1 w := by simp [sizeOf, typeInfo, hi, hs]
 rw [Instr.checkKey]
 simp only [Sem.run_bind, run_underlying hu, Result.andThen_ok, Std.Legacy.Range.forIn_eq_forIn_range', Std.Legacy.Range.size, Nat.sub_zero, Nat.add_one_sub_one, Nat.div_one, List.range', List.forIn_cons, List.forIn_nil, s0, p0, p1, c0, Sem.run_pure, Nat.zero_add]
theorem info_int1 : ∃ i, Try.prog.info? 3 = some i ∧ i.size = 1 := by
 obtain ⟨i, hi⟩ := info_int
 refine ⟨i, hi, ?_⟩
 have h : (Try.prog.info? 3).map (·.size) = some 1 := by kernel_rfl
 rw [hi] at h
 simpa using h
theorem keyO : KeyT Try.prog 46 fK := by
 obtain ⟨i, hi, hs⟩ := info_int1
 exact keyTwo (by kernel_rfl) (fun em a b w => check_arr2 (q := .i64) w (by kernel_rfl) hi hs (by kernel_rfl) (by kernel_rfl) em a b) (fun a b c d w => run_eqArr2 w (by kernel_rfl) hi (by kernel_rfl) (by kernel_rfl) (by kernel_rfl) a b c d)
abbrev MapO := List ((Int × Int) × (Int × Int) × Nat)
abbrev MapI := List ((Int × Int) × Int × Nat)
def flt (F : MapI) (a b : Int) : Bool := decide (0 ≤ a) && (decide (0 ≤ b) && decide (0 < (mget (min a b, max a b) F).getD 0))
structure BS where
 M : MD
 L : MapO
 c : Nat
def joinE (F : MapI) (n : Nat) (v0 v1 v2 : Int) (s : BS) (i : Nat) : BS :=
 match mget (at3 v0 v1 v2 ((i + 2) % 3), at3 v0 v1 v2 ((i + 1) % 3)) s.L with
 | some x => ⟨s.M.link n i x.1.toNat x.2.toNat (flt F (at3 v0 v1 v2 ((i + 1) % 3)) (at3 v0 v1 v2 ((i + 2) % 3))), mdel (at3 v0 v1 v2 ((i + 2) % 3), at3 v0 v1 v2 ((i + 1) % 3)) s.L, s.c⟩
 | none => ⟨s.M, mput (at3 v0 v1 v2 ((i + 1) % 3), at3 v0 v1 v2 ((i + 2) % 3)) ((n : Int), (i : Int)) s.L s.c, mclk (at3 v0 v1 v2 ((i + 1) % 3), at3 v0 v1 v2 ((i + 2) % 3)) s.L s.c⟩
def joinB (F : MapI) (n : Nat) (v0 v1 v2 : Int) (s : BS) : BS := [0, 1, 2].foldl (joinE F n v0 v1 v2) s
def sOk (s : BS) : Prop := ∀ e, e ∈ s.L → (0 ≤ e.2.1.1 ∧ e.2.1.1 < s.M.tris.length) ∧ 0 ≤ e.2.1.2 ∧ e.2.1.2 < 3
theorem link_len (M : MD) (t i u j : Nat) (f : Bool) : (M.link t i u j f).tris.length = M.tris.length := by simp [MD.link]
theorem mget_mem {κ ν : Type} [DecidableEq κ] {k : κ} {l : List (κ × ν × Nat)} {v : ν} (h : mget k l = some v) : ∃ e, e ∈ l ∧ e.1 = k ∧ e.2.1 = v := by
 unfold mget at h
 cases hf : mfind k l 0 with
 | none => rw [hf] at h; cases h
 | some p =>
  rw [hf] at h
  obtain ⟨i, v'⟩ := p
  obtain ⟨_, e, h1, h2, h3⟩ := mfind_key hf
  simp at h
  subst h
  exact ⟨e, List.mem_of_getElem? h1, h2, h3⟩
theorem mdel_mem {κ ν : Type} [DecidableEq κ] {k : κ} {l : List (κ × ν × Nat)} {e : κ × ν × Nat} (h : e ∈ mdel k l) : e ∈ l := by
 unfold mdel at h
 split at h
 ·exact List.mem_of_mem_eraseIdx h
 ·exact h
theorem mput_mem {κ ν : Type} [DecidableEq κ] {k : κ} {v : ν} {l : List (κ × ν × Nat)} {c : Nat} {e : κ × ν × Nat} (h : e ∈ mput k v l c) : e.2.1 = v ∨ e ∈ l := by
 unfold mput at h
 split at h
 ·obtain ⟨i, hi⟩ := List.mem_iff_getElem?.1 h
  rw [List.getElem?_modify] at hi
  split at hi
  ·rename_i hj
   cases hl : l[i]? with
   | none => rw [hl] at hi; simp at hi
   | some e' => rw [hl] at hi; simp at hi; subst hi; exact .inl rfl
  ·simp at hi
   exact .inr (List.mem_of_getElem? hi)
 ·rcases List.mem_append.1 h with h | h
  ·exact .inr h
  ·rcases List.mem_singleton.1 h with rfl
   exact .inl rfl
theorem getD_int (m : Option Int) : ((m.map gI).getD (.int .i64 0)) = .int .i64 (m.getD 0) := by cases m <;> rfl
theorem j_three {F : MapI} {n : Nat} {v0 v1 v2 : Int} {s : BS} {k : Nat} (hk : k < 3) : ([0, 1, 2].take (k + 1)).foldl (joinE F n v0 v1 v2) s = joinE F n v0 v1 v2 (([0, 1, 2].take k).foldl (joinE F n v0 v1 v2) s) k := by
 match k, hk with
 | 0, _ => rfl
 | 1, _ => rfl
 | 2, _ => rfl
theorem tm3' {k j : Nat} (hk : k < 3) (hj : j < 3) : ((k : Int) + (j : Int)).tmod 3 = (((k + j) % 3 : Nat) : Int) := by
 match k, hk, j, hj with
 | 0, _, 0, _ => rfl
 | 0, _, 1, _ => rfl
 | 0, _, 2, _ => rfl
 | 1, _, 0, _ => rfl
 | 1, _, 1, _ => rfl
 | 1, _, 2, _ => rfl
 | 2, _, 0, _ => rfl
 | 2, _, 1, _ => rfl
 | 2, _, 2, _ => rfl
theorem v3_get {v0 v1 v2 : Int} {j : Nat} (hj : j < 3) : (#[.int .i64 v0, .int .i64 v1, .int .i64 v2] : Array Value)[0 + ((j : Nat) : Int).toNat * 1]? = some (.int .i64 (at3 v0 v1 v2 j)) := by
 match j, hj with
 | 0, _ => rfl
 | 1, _ => rfl
 | 2, _ => rfl
def joinFs (bo ro bm B bf rf : Nat) (F : MapI) (cF : Nat) : List Res := [sliceR 1 (some ⟨bo, 0, none⟩) 1 [.map (some ro)], sliceR 1 (some ⟨bm, 0, none⟩) 1 [.pointer (some ⟨B, 0, none⟩)], sliceR 1 (some ⟨bf, 0, none⟩) 1 [.map (some rf)], mapR rf fK gI F cF]
set_option maxRecDepth 100000 in
set_option maxHeartbeats 4000000 in
theorem join_c {bo ro bm B bf rf : Nat} {F : MapI} {cF : Nat} {n : Nat} {v0 v1 v2 : Int} {s0 : BS} (hn : n < s0.M.tris.length) (hlen : s0.M.tris.length ≤ 1000000) (hok0 : sOk s0) : Tri Try.prog 86 [.int .i64 (n : Int), .agg #[.int .i64 v0, .int .i64 v1, .int .i64 v2], .pointer (some ⟨bo, 0, none⟩), .pointer (some ⟨bm, 0, none⟩), .pointer (some ⟨bf, 0, none⟩)] [mapR ro fK fK s0.L s0.c, meshR B s0.M] (joinFs bo ro bm B bf rf F cF) (RetX (fun _ : Unit => True) (fun _ => .tuple #[]) (fun _ => [mapR ro fK fK (joinB F n v0 v1 v2 s0).L (joinB F n v0 v1 v2 s0).c, meshR B (joinB F n v0 v1 v2 s0).M]) (fun _ => [])) := by
 refine Tri_of (N := 72) Try.func86 rfl ent_86 rfl rfl ?_
 intro w0 S0 T0
 show CJ _ _ _ [(0, _), (1, _), (2, _), (3, _), (4, _)] _ _
 refine CJ_seq ?_
 refine CJ_reg ?_
 refine LJ_box (cs := #[_, _, _]) rfl rfl rfl rfl ?_
 intro b1
 refine LJ_nil ?_
 refine QJ_then ?_
 refine CJ_seq ?_
 refine CJ_reg ?_
 refine LJ_y rfl rfl (YJ_move rfl) ?_
 refine LJ_nil ?_
 refine QJ_then ?_
 refine CJ_block ?_
 refine CJ_loopF (F := fun (i : Nat × BS) => ⟨[(0, .int .i64 (n : Int)), (2, .pointer (some ⟨bo, 0, none⟩)), (3, .pointer (some ⟨bm, 0, none⟩)), (4, .pointer (some ⟨bf, 0, none⟩)), (6, .pointer (some ⟨b1, 0, none⟩)), (12, .int .i64 (i.1 : Nat))], [mapR ro fK fK i.2.L i.2.c, meshR B i.2.M], []⟩) (I := fun (i : Nat × BS) => i.1 ≤ 3 ∧ i.2 = ([0, 1, 2].take i.1).foldl (joinE F n v0 v1 v2) s0 ∧ sOk i.2 ∧ i.2.M.tris.length = s0.M.tris.length) (m := fun (i : Nat × BS) => 3 - i.1) (0, s0) (μr := [_]) ⟨Nat.zero_le _, rfl, hok0, rfl⟩ (And.intro rfl (And.intro rfl (And.intro rfl (And.intro rfl (And.intro rfl (And.intro rfl (trivial))))))) (permI [1, 1] rfl) (fun _ h => nomatch h) ?_
 rintro ⟨k, s⟩ ⟨hk, hs, hok, hln⟩
 try dsimp only at hk
 try dsimp only at hs
 try dsimp only at hok
 try dsimp only at hln
 show CJ _ _ _ [(0, .int .i64 (n : Int)), (2, .pointer (some ⟨bo, 0, none⟩)), (3, .pointer (some ⟨bm, 0, none⟩)), (4, .pointer (some ⟨bf, 0, none⟩)), (6, .pointer (some ⟨b1, 0, none⟩)), (12, .int .i64 (k : Nat))] (mapR ro fK fK s.L s.c :: meshR B s.M :: _ :: _) _
 refine CJ_seq ?_
 refine CJ_reg ?_
 refine LJ_y rfl rfl (YJ_bin rfl rfl rfl) ?_
 refine LJ_nil ?_
 refine QJ_then ?_
 refine CJ_seq ?_
 refine CJ_cond rfl (fun h13 => ?_) (fun h13 => ?_)
 ·simp only [decide_eq_true_eq] at h13
  have hk3 : k < 3 := by omega
  refine CJ_skip ?_
  refine QJ_then ?_
  refine CJ_seq ?_
  refine CJ_block ?_
  refine CJ_seq ?_
  refine CJ_reg ?_
  refine LJ_y rfl rfl (YJ_move rfl) ?_
  refine LJ_y rfl rfl (YJ_assign rfl) ?_
  refine LJ_nil ?_
  refine QJ_then ?_
  refine CJ_seq ?_
  refine CJ_regD mix (by kernel_rfl) (fun _ _ _ _ _ h => h) _ _ (fun _ h => h) (fun _ h => h) ?_
  refine AJ_y 0 rfl (by kernel_rfl) (by kernel_rfl) rfl rfl (YJ_move rfl) ?_
  refine AJ_y 1 rfl (by kernel_rfl) (by kernel_rfl) rfl rfl (YJ_bin rfl rfl (iop_add (by omega))) ?_
  refine AJ_y 2 rfl (by kernel_rfl) (by kernel_rfl) rfl rfl (YJ_rem rfl rfl (by first | decide | omega)) ?_
  refine AJ_val (v := .int .i64 (((k + 1) % 3 : Nat) : Int)) (congrArg (Value.int .i64) (tm3' (j := 1) hk3 (by decide))) ?_
  refine AJ_y 3 rfl (by kernel_rfl) (by kernel_rfl) rfl rfl (YJ_ixArr rfl rfl arrt_34 (by omega) (by omega) rfl) ?_
  refine AJ_y 4 rfl (by kernel_rfl) (by kernel_rfl) rfl rfl (YJ_load1 rfl tyi_3 m2 (v3_get (Nat.mod_lt (k + 1) (by decide)))) ?_
  refine AJ_y 5 rfl (by kernel_rfl) (by kernel_rfl) rfl rfl (YJ_move rfl) ?_
  refine AJ_y 6 rfl (by kernel_rfl) (by kernel_rfl) rfl rfl (YJ_bin rfl rfl (iop_add (by omega))) ?_
  refine AJ_y 7 rfl (by kernel_rfl) (by kernel_rfl) rfl rfl (YJ_rem rfl rfl (by first | decide | omega)) ?_
  refine AJ_val (v := .int .i64 (((k + 2) % 3 : Nat) : Int)) (congrArg (Value.int .i64) (tm3' (j := 2) hk3 (by decide))) ?_
  refine AJ_y 8 rfl (by kernel_rfl) (by kernel_rfl) rfl rfl (YJ_ixArr rfl rfl arrt_34 (by omega) (by omega) rfl) ?_
  refine AJ_y 9 rfl (by kernel_rfl) (by kernel_rfl) rfl rfl (YJ_load1 rfl tyi_3 m2 (v3_get (Nat.mod_lt (k + 2) (by decide)))) ?_
  refine AJ_y 10 rfl (by kernel_rfl) (by kernel_rfl) rfl rfl (YJ_assign rfl) ?_
  refine AJ_y 11 rfl (by kernel_rfl) (by kernel_rfl) rfl rfl (YJ_assign rfl) ?_
  refine AJ_done (by kernel_rfl) ?_
  refine QJ_then ?_
  refine CJ_seq ?_
  refine CJ_reg ?_
  refine LJ_y rfl rfl (YJ_loadFactP (A := some ⟨bo, 0, none⟩) (j := 0) rfl rfl tyi_144 m0 rfl) ?_
  refine LJ_y rfl rfl (YJ_move rfl) ?_
  refine LJ_y rfl rfl (YJ_move rfl) ?_
  refine LJ_y rfl rfl (YJ_build1 (cs := [_, _]) lay_46 rfl rfl rfl) ?_
  rcases hmg : mget (at3 v0 v1 v2 ((k + 2) % 3), at3 v0 v1 v2 ((k + 1) % 3)) s.L with _ | ⟨t9, i9⟩
  ·skip
   refine LJ_y rfl rfl (YJ_lookup (f := fK) (g := fK) (k := (at3 v0 v1 v2 ((k + 2) % 3), at3 v0 v1 v2 ((k + 1) % 3))) rfl rfl umap_144 keyO zer_146 (MapAt_own m0) rfl) ?_
   refine LJ_val (v := .tuple #[.agg #[.int .i64 0, .int .i64 0], .bool false]) (by rw [hmg]; rfl) ?_
   refine LJ_y rfl rfl (YJ_move rfl) ?_
   refine LJ_y rfl rfl (YJ_extract rfl rfl) ?_
   refine LJ_y rfl rfl (YJ_extract rfl rfl) ?_
   refine LJ_alloc (cs := #[_, _]) rfl rfl zer_146 rfl ?_
   intro b2
   refine LJ_store (cs' := #[_, _]) (μ' := [_, _, _, _]) 0 rfl rfl rfl rfl tyi_146 rfl (Nat.le_of_ble_eq_true rfl) rfl rfl rfl ?_
   refine LJ_y rfl rfl (YJ_assign rfl) ?_
   refine LJ_nil ?_
   refine QJ_then ?_
   refine CJ_seq ?_
   refine CJ_reg ?_
   refine LJ_y rfl rfl (YJ_move rfl) ?_
   refine LJ_nil ?_
   refine QJ_then ?_
   refine CJ_condF rfl ?_
   refine CJ_reg ?_
   refine LJ_y rfl rfl (YJ_loadFactP (A := some ⟨bo, 0, none⟩) (j := 0) rfl rfl tyi_144 m0 rfl) ?_
   refine LJ_y rfl rfl (YJ_move rfl) ?_
   refine LJ_y rfl rfl (YJ_move rfl) ?_
   refine LJ_y rfl rfl (YJ_build1 (cs := [_, _]) lay_46 rfl rfl rfl) ?_
   refine LJ_y rfl rfl (YJ_move rfl) ?_
   refine LJ_y rfl rfl (YJ_move rfl) ?_
   refine LJ_y rfl rfl (YJ_build1 (cs := [_, _]) lay_146 rfl rfl rfl) ?_
   refine LJ_mapUpdate (f := fK) (g := fK) (k := (at3 v0 v1 v2 ((k + 1) % 3), at3 v0 v1 v2 ((k + 2) % 3))) (v := ((n : Int), (k : Int))) 1 rfl rfl rfl rfl rfl umap_144 keyO rfl rfl ?_
   show LJ _ _ _ _ _ (_ :: _ :: _ :: _ :: _) _
   refine LJ_nil ?_
   refine QJ_in_normal ?_
   refine QJ_then ?_
   refine CJ_reg ?_
   refine LJ_y rfl rfl (YJ_bin rfl rfl (iop_add (by omega))) ?_
   refine LJ_y rfl rfl (YJ_move rfl) ?_
   refine LJ_nil ?_
   refine QJ_roundF (F := fun (i : Nat × BS) => ⟨[(0, .int .i64 (n : Int)), (2, .pointer (some ⟨bo, 0, none⟩)), (3, .pointer (some ⟨bm, 0, none⟩)), (4, .pointer (some ⟨bf, 0, none⟩)), (6, .pointer (some ⟨b1, 0, none⟩)), (12, .int .i64 (i.1 : Nat))], [mapR ro fK fK i.2.L i.2.c, meshR B i.2.M], []⟩) (I := fun (i : Nat × BS) => i.1 ≤ 3 ∧ i.2 = ([0, 1, 2].take i.1).foldl (joinE F n v0 v1 v2) s0 ∧ sOk i.2 ∧ i.2.M.tris.length = s0.M.tris.length) (m := fun (i : Nat × BS) => 3 - i.1) (i := (k, s)) ((k + 1, ⟨s.M, mput (at3 v0 v1 v2 ((k + 1) % 3), at3 v0 v1 v2 ((k + 2) % 3)) ((n : Int), (k : Int)) s.L s.c, mclk (at3 v0 v1 v2 ((k + 1) % 3), at3 v0 v1 v2 ((k + 2) % 3)) s.L s.c⟩)) (μd := [_]) ⟨by omega, by dsimp only; rw [j_three hk3, ← hs]; unfold joinE; rw [hmg], fun e he => (mput_mem he).elim (fun q => by rw [q]; dsimp only; omega) (hok e), hln⟩ (by dsimp only; omega) (And.intro rfl (And.intro rfl (And.intro rfl (And.intro rfl (And.intro rfl (And.intro rfl (trivial))))))) (permI [1, 1, 1] rfl) (fun _ h => nomatch h) (fun _ h => h)
  ·skip
   have hmm := mget_mem hmg
   obtain ⟨e9, he9, _, hv9⟩ := hmm
   obtain ⟨⟨ht0, ht1⟩, hi0, hi1⟩ := hok e9 he9
   rw [hv9] at ht0 ht1 hi0 hi1
   dsimp only at ht0 ht1 hi0 hi1
   refine LJ_y rfl rfl (YJ_lookup (f := fK) (g := fK) (k := (at3 v0 v1 v2 ((k + 2) % 3), at3 v0 v1 v2 ((k + 1) % 3))) rfl rfl umap_144 keyO zer_146 (MapAt_own m0) rfl) ?_
   refine LJ_val (v := .tuple #[.agg #[.int .i64 t9, .int .i64 i9], .bool true]) (by rw [hmg]; rfl) ?_
   refine LJ_y rfl rfl (YJ_move rfl) ?_
   refine LJ_y rfl rfl (YJ_extract rfl rfl) ?_
   refine LJ_y rfl rfl (YJ_extract rfl rfl) ?_
   refine LJ_alloc (cs := #[_, _]) rfl rfl zer_146 rfl ?_
   intro b3
   refine LJ_store (cs' := #[_, _]) (μ' := [_, _, _, _]) 0 rfl rfl rfl rfl tyi_146 rfl (Nat.le_of_ble_eq_true rfl) rfl rfl rfl ?_
   refine LJ_y rfl rfl (YJ_assign rfl) ?_
   refine LJ_nil ?_
   refine QJ_then ?_
   refine CJ_seq ?_
   refine CJ_reg ?_
   refine LJ_y rfl rfl (YJ_move rfl) ?_
   refine LJ_nil ?_
   refine QJ_then ?_
   refine CJ_condT rfl ?_
   refine CJ_seq ?_
   refine CJ_regD mix (by kernel_rfl) (fun _ _ _ _ _ h => h) (selR [0, 1, 3] _) _ (selR_sub _ _) (fun _ h => h) ?_
   refine AJ_y 0 rfl (by kernel_rfl) (by kernel_rfl) rfl rfl (YJ_loadFactP (A := some ⟨bm, 0, none⟩) (j := 0) rfl rfl tyi_28 m1 rfl) ?_
   refine AJ_y 1 rfl (by kernel_rfl) (by kernel_rfl) rfl rfl (YJ_move rfl) ?_
   refine AJ_y 2 rfl (by kernel_rfl) (by kernel_rfl) rfl rfl (YJ_move rfl) ?_
   refine AJ_y 3 rfl (by kernel_rfl) (by kernel_rfl) rfl rfl (YJ_fieldOwn rfl fld_146_0 rfl) ?_
   refine AJ_y 4 rfl (by kernel_rfl) (by kernel_rfl) rfl rfl (YJ_loadL rfl tyi_3 m0 rfl) ?_
   refine AJ_val (v := .int .i64 ((t9.toNat : Nat) : Int)) (congrArg (Value.int .i64) (by omega)) ?_
   refine AJ_y 5 rfl (by kernel_rfl) (by kernel_rfl) rfl rfl (YJ_fieldOwn rfl fld_146_1 rfl) ?_
   refine AJ_y 6 rfl (by kernel_rfl) (by kernel_rfl) rfl rfl (YJ_loadL rfl tyi_3 m0 rfl) ?_
   refine AJ_val (v := .int .i64 ((i9.toNat : Nat) : Int)) (congrArg (Value.int .i64) (by omega)) ?_
   refine AJ_y 7 rfl (by kernel_rfl) (by kernel_rfl) rfl rfl (YJ_move rfl) ?_
   refine AJ_y 8 rfl (by kernel_rfl) (by kernel_rfl) rfl rfl (YJ_bin rfl rfl rfl) ?_
   refine AJ_y 9 rfl (by kernel_rfl) (by kernel_rfl) rfl rfl (YJ_move rfl) ?_
   refine AJ_boolC (fun h43 => ?_) (fun h43 => ?_)
   ·simp only [decide_eq_true_eq] at h43
    refine AJ_y 10 rfl (by kernel_rfl) (by kernel_rfl) rfl rfl (YJ_move rfl) ?_
    refine AJ_y 11 rfl (by kernel_rfl) (by kernel_rfl) rfl rfl (YJ_bin rfl rfl rfl) ?_
    refine AJ_y 12 rfl (by kernel_rfl) (by kernel_rfl) rfl rfl (YJ_pickT rfl rfl) ?_
    refine AJ_y 13 rfl (by kernel_rfl) (by kernel_rfl) rfl rfl (YJ_move rfl) ?_
    refine AJ_boolC (fun h47 => ?_) (fun h47 => ?_)
    ·simp only [decide_eq_true_eq] at h47
     refine AJ_y 14 rfl (by kernel_rfl) (by kernel_rfl) rfl rfl (YJ_loadFactP (A := some ⟨bf, 0, none⟩) (j := 0) rfl rfl tyi_116 m2 rfl) ?_
     refine AJ_y 15 rfl (by kernel_rfl) (by kernel_rfl) rfl rfl (YJ_move rfl) ?_
     refine AJ_y 16 rfl (by kernel_rfl) (by kernel_rfl) rfl rfl (YJ_move rfl) ?_
     refine AJ_y 17 rfl (by kernel_rfl) (by kernel_rfl) rfl rfl (YJ_min2 rfl rfl) ?_
     refine AJ_y 18 rfl (by kernel_rfl) (by kernel_rfl) rfl rfl (YJ_move rfl) ?_
     refine AJ_y 19 rfl (by kernel_rfl) (by kernel_rfl) rfl rfl (YJ_move rfl) ?_
     refine AJ_y 20 rfl (by kernel_rfl) (by kernel_rfl) rfl rfl (YJ_max2 rfl rfl) ?_
     refine AJ_y 21 rfl (by kernel_rfl) (by kernel_rfl) rfl rfl (YJ_build1 (cs := [_, _]) lay_46 rfl rfl rfl) ?_
     refine AJ_y 22 rfl (by kernel_rfl) (by kernel_rfl) rfl rfl (YJ_lookup (f := fK) (g := gI) (k := (min (at3 v0 v1 v2 ((k + 1) % 3)) (at3 v0 v1 v2 ((k + 2) % 3)), max (at3 v0 v1 v2 ((k + 1) % 3)) (at3 v0 v1 v2 ((k + 2) % 3)))) rfl rfl umap_116 keyO zer_3 (MapAt_fact m3) rfl) ?_
     refine AJ_val (v := .int .i64 ((mget (min (at3 v0 v1 v2 ((k + 1) % 3)) (at3 v0 v1 v2 ((k + 2) % 3)), max (at3 v0 v1 v2 ((k + 1) % 3)) (at3 v0 v1 v2 ((k + 2) % 3))) F).getD 0)) (getD_int _) ?_
     refine AJ_y 23 rfl (by kernel_rfl) (by kernel_rfl) rfl rfl (YJ_bin rfl rfl rfl) ?_
     refine AJ_y 24 rfl (by kernel_rfl) (by kernel_rfl) rfl rfl (YJ_pickT rfl rfl) ?_
     refine AJ_call1 25 2 rfl (by kernel_rfl) rfl rfl rfl rfl rfl rfl (link_c (t := n) (i := k) (u := t9.toNat) (j := i9.toNat) (f := decide (0 < (mget (min (at3 v0 v1 v2 ((k + 1) % 3)) (at3 v0 v1 v2 ((k + 2) % 3)), max (at3 v0 v1 v2 ((k + 1) % 3)) (at3 v0 v1 v2 ((k + 2) % 3))) F).getD 0)) (by rw [hln]; exact hn) (by omega) hk3 (by omega)) (fun _ h => nomatch h) (AllIn.sub (And.intro m0 (And.intro m1 (And.intro m3 (trivial))))) ?_
     show AJ _ _ _ _ _ _ _ _ (_ :: _ :: _ :: _ :: _) _
     refine AJ_done (by kernel_rfl) ?_
     refine QJ_then ?_
     refine CJ_reg ?_
     refine LJ_y rfl rfl (YJ_loadFactP (A := some ⟨bo, 0, none⟩) (j := 0) rfl rfl tyi_144 m0 rfl) ?_
     refine LJ_y rfl rfl (YJ_move rfl) ?_
     refine LJ_y rfl rfl (YJ_move rfl) ?_
     refine LJ_y rfl rfl (YJ_build1 (cs := [_, _]) lay_46 rfl rfl rfl) ?_
     refine LJ_delete (f := fK) (g := fK) (k := (at3 v0 v1 v2 ((k + 2) % 3), at3 v0 v1 v2 ((k + 1) % 3))) 1 rfl rfl rfl rfl umap_144 keyO rfl ?_
     show LJ _ _ _ _ _ (_ :: _ :: _ :: _ :: _) _
     refine LJ_nil ?_
     refine QJ_in_normal ?_
     refine QJ_then ?_
     refine CJ_reg ?_
     refine LJ_y rfl rfl (YJ_bin rfl rfl (iop_add (by omega))) ?_
     refine LJ_y rfl rfl (YJ_move rfl) ?_
     refine LJ_nil ?_
     refine QJ_roundF (F := fun (i : Nat × BS) => ⟨[(0, .int .i64 (n : Int)), (2, .pointer (some ⟨bo, 0, none⟩)), (3, .pointer (some ⟨bm, 0, none⟩)), (4, .pointer (some ⟨bf, 0, none⟩)), (6, .pointer (some ⟨b1, 0, none⟩)), (12, .int .i64 (i.1 : Nat))], [mapR ro fK fK i.2.L i.2.c, meshR B i.2.M], []⟩) (I := fun (i : Nat × BS) => i.1 ≤ 3 ∧ i.2 = ([0, 1, 2].take i.1).foldl (joinE F n v0 v1 v2) s0 ∧ sOk i.2 ∧ i.2.M.tris.length = s0.M.tris.length) (m := fun (i : Nat × BS) => 3 - i.1) (i := (k, s)) ((k + 1, ⟨s.M.link n k t9.toNat i9.toNat (decide (0 < (mget (min (at3 v0 v1 v2 ((k + 1) % 3)) (at3 v0 v1 v2 ((k + 2) % 3)), max (at3 v0 v1 v2 ((k + 1) % 3)) (at3 v0 v1 v2 ((k + 2) % 3))) F).getD 0)), mdel (at3 v0 v1 v2 ((k + 2) % 3), at3 v0 v1 v2 ((k + 1) % 3)) s.L, s.c⟩)) (μd := [_]) ⟨by omega, by dsimp only; rw [j_three hk3, ← hs]; unfold joinE; rw [hmg]; dsimp only; rw [show flt F (at3 v0 v1 v2 ((k + 1) % 3)) (at3 v0 v1 v2 ((k + 2) % 3)) = (decide (0 < (mget (min (at3 v0 v1 v2 ((k + 1) % 3)) (at3 v0 v1 v2 ((k + 2) % 3)), max (at3 v0 v1 v2 ((k + 1) % 3)) (at3 v0 v1 v2 ((k + 2) % 3))) F).getD 0)) from by unfold flt; simp [h43, h47]], fun e he => by dsimp only at he ⊢; rw [link_len]; exact hok e (mdel_mem he), by dsimp only; rw [link_len]; exact hln⟩ (by dsimp only; omega) (And.intro rfl (And.intro rfl (And.intro rfl (And.intro rfl (And.intro rfl (And.intro rfl (trivial))))))) (permI [1, 1, 1] rfl) (fun _ h => nomatch h) (fun _ h => h)
    ·simp only [decide_eq_false_iff_not] at h47
     refine AJ_skip 14 rfl (by kernel_rfl) (by kernel_rfl) rfl rfl ?_
     refine AJ_skip 15 rfl (by kernel_rfl) (by kernel_rfl) rfl rfl ?_
     refine AJ_skip 16 rfl (by kernel_rfl) (by kernel_rfl) rfl rfl ?_
     refine AJ_skip 17 rfl (by kernel_rfl) (by kernel_rfl) rfl rfl ?_
     refine AJ_skip 18 rfl (by kernel_rfl) (by kernel_rfl) rfl rfl ?_
     refine AJ_skip 19 rfl (by kernel_rfl) (by kernel_rfl) rfl rfl ?_
     refine AJ_skip 20 rfl (by kernel_rfl) (by kernel_rfl) rfl rfl ?_
     refine AJ_skip 21 rfl (by kernel_rfl) (by kernel_rfl) rfl rfl ?_
     refine AJ_skip 22 rfl (by kernel_rfl) (by kernel_rfl) rfl rfl ?_
     refine AJ_skip 23 rfl (by kernel_rfl) (by kernel_rfl) rfl rfl ?_
     refine AJ_y 24 rfl (by kernel_rfl) (by kernel_rfl) rfl rfl (YJ_pickF rfl rfl) ?_
     refine AJ_call1 25 2 rfl (by kernel_rfl) rfl rfl rfl rfl rfl rfl (link_c (t := n) (i := k) (u := t9.toNat) (j := i9.toNat) (f := false) (by rw [hln]; exact hn) (by omega) hk3 (by omega)) (fun _ h => nomatch h) (AllIn.sub (And.intro m0 (And.intro m1 (And.intro m3 (trivial))))) ?_
     show AJ _ _ _ _ _ _ _ _ (_ :: _ :: _ :: _ :: _) _
     refine AJ_done (by kernel_rfl) ?_
     refine QJ_then ?_
     refine CJ_reg ?_
     refine LJ_y rfl rfl (YJ_loadFactP (A := some ⟨bo, 0, none⟩) (j := 0) rfl rfl tyi_144 m0 rfl) ?_
     refine LJ_y rfl rfl (YJ_move rfl) ?_
     refine LJ_y rfl rfl (YJ_move rfl) ?_
     refine LJ_y rfl rfl (YJ_build1 (cs := [_, _]) lay_46 rfl rfl rfl) ?_
     refine LJ_delete (f := fK) (g := fK) (k := (at3 v0 v1 v2 ((k + 2) % 3), at3 v0 v1 v2 ((k + 1) % 3))) 1 rfl rfl rfl rfl umap_144 keyO rfl ?_
     show LJ _ _ _ _ _ (_ :: _ :: _ :: _ :: _) _
     refine LJ_nil ?_
     refine QJ_in_normal ?_
     refine QJ_then ?_
     refine CJ_reg ?_
     refine LJ_y rfl rfl (YJ_bin rfl rfl (iop_add (by omega))) ?_
     refine LJ_y rfl rfl (YJ_move rfl) ?_
     refine LJ_nil ?_
     refine QJ_roundF (F := fun (i : Nat × BS) => ⟨[(0, .int .i64 (n : Int)), (2, .pointer (some ⟨bo, 0, none⟩)), (3, .pointer (some ⟨bm, 0, none⟩)), (4, .pointer (some ⟨bf, 0, none⟩)), (6, .pointer (some ⟨b1, 0, none⟩)), (12, .int .i64 (i.1 : Nat))], [mapR ro fK fK i.2.L i.2.c, meshR B i.2.M], []⟩) (I := fun (i : Nat × BS) => i.1 ≤ 3 ∧ i.2 = ([0, 1, 2].take i.1).foldl (joinE F n v0 v1 v2) s0 ∧ sOk i.2 ∧ i.2.M.tris.length = s0.M.tris.length) (m := fun (i : Nat × BS) => 3 - i.1) (i := (k, s)) ((k + 1, ⟨s.M.link n k t9.toNat i9.toNat (false), mdel (at3 v0 v1 v2 ((k + 2) % 3), at3 v0 v1 v2 ((k + 1) % 3)) s.L, s.c⟩)) (μd := [_]) ⟨by omega, by dsimp only; rw [j_three hk3, ← hs]; unfold joinE; rw [hmg]; dsimp only; rw [show flt F (at3 v0 v1 v2 ((k + 1) % 3)) (at3 v0 v1 v2 ((k + 2) % 3)) = (false) from by unfold flt; simp [h43, h47]], fun e he => by dsimp only at he ⊢; rw [link_len]; exact hok e (mdel_mem he), by dsimp only; rw [link_len]; exact hln⟩ (by dsimp only; omega) (And.intro rfl (And.intro rfl (And.intro rfl (And.intro rfl (And.intro rfl (And.intro rfl (trivial))))))) (permI [1, 1, 1] rfl) (fun _ h => nomatch h) (fun _ h => h)
   ·simp only [decide_eq_false_iff_not] at h43
    refine AJ_skip 10 rfl (by kernel_rfl) (by kernel_rfl) rfl rfl ?_
    refine AJ_skip 11 rfl (by kernel_rfl) (by kernel_rfl) rfl rfl ?_
    refine AJ_y 12 rfl (by kernel_rfl) (by kernel_rfl) rfl rfl (YJ_pickF rfl rfl) ?_
    refine AJ_y 13 rfl (by kernel_rfl) (by kernel_rfl) rfl rfl (YJ_move rfl) ?_
    refine AJ_skip 14 rfl (by kernel_rfl) (by kernel_rfl) rfl rfl ?_
    refine AJ_skip 15 rfl (by kernel_rfl) (by kernel_rfl) rfl rfl ?_
    refine AJ_skip 16 rfl (by kernel_rfl) (by kernel_rfl) rfl rfl ?_
    refine AJ_skip 17 rfl (by kernel_rfl) (by kernel_rfl) rfl rfl ?_
    refine AJ_skip 18 rfl (by kernel_rfl) (by kernel_rfl) rfl rfl ?_
    refine AJ_skip 19 rfl (by kernel_rfl) (by kernel_rfl) rfl rfl ?_
    refine AJ_skip 20 rfl (by kernel_rfl) (by kernel_rfl) rfl rfl ?_
    refine AJ_skip 21 rfl (by kernel_rfl) (by kernel_rfl) rfl rfl ?_
    refine AJ_skip 22 rfl (by kernel_rfl) (by kernel_rfl) rfl rfl ?_
    refine AJ_skip 23 rfl (by kernel_rfl) (by kernel_rfl) rfl rfl ?_
    refine AJ_y 24 rfl (by kernel_rfl) (by kernel_rfl) rfl rfl (YJ_pickF rfl rfl) ?_
    refine AJ_call1 25 2 rfl (by kernel_rfl) rfl rfl rfl rfl rfl rfl (link_c (t := n) (i := k) (u := t9.toNat) (j := i9.toNat) (f := false) (by rw [hln]; exact hn) (by omega) hk3 (by omega)) (fun _ h => nomatch h) (AllIn.sub (And.intro m0 (And.intro m1 (And.intro m3 (trivial))))) ?_
    show AJ _ _ _ _ _ _ _ _ (_ :: _ :: _ :: _ :: _) _
    refine AJ_done (by kernel_rfl) ?_
    refine QJ_then ?_
    refine CJ_reg ?_
    refine LJ_y rfl rfl (YJ_loadFactP (A := some ⟨bo, 0, none⟩) (j := 0) rfl rfl tyi_144 m0 rfl) ?_
    refine LJ_y rfl rfl (YJ_move rfl) ?_
    refine LJ_y rfl rfl (YJ_move rfl) ?_
    refine LJ_y rfl rfl (YJ_build1 (cs := [_, _]) lay_46 rfl rfl rfl) ?_
    refine LJ_delete (f := fK) (g := fK) (k := (at3 v0 v1 v2 ((k + 2) % 3), at3 v0 v1 v2 ((k + 1) % 3))) 1 rfl rfl rfl rfl umap_144 keyO rfl ?_
    show LJ _ _ _ _ _ (_ :: _ :: _ :: _ :: _) _
    refine LJ_nil ?_
    refine QJ_in_normal ?_
    refine QJ_then ?_
    refine CJ_reg ?_
    refine LJ_y rfl rfl (YJ_bin rfl rfl (iop_add (by omega))) ?_
    refine LJ_y rfl rfl (YJ_move rfl) ?_
    refine LJ_nil ?_
    refine QJ_roundF (F := fun (i : Nat × BS) => ⟨[(0, .int .i64 (n : Int)), (2, .pointer (some ⟨bo, 0, none⟩)), (3, .pointer (some ⟨bm, 0, none⟩)), (4, .pointer (some ⟨bf, 0, none⟩)), (6, .pointer (some ⟨b1, 0, none⟩)), (12, .int .i64 (i.1 : Nat))], [mapR ro fK fK i.2.L i.2.c, meshR B i.2.M], []⟩) (I := fun (i : Nat × BS) => i.1 ≤ 3 ∧ i.2 = ([0, 1, 2].take i.1).foldl (joinE F n v0 v1 v2) s0 ∧ sOk i.2 ∧ i.2.M.tris.length = s0.M.tris.length) (m := fun (i : Nat × BS) => 3 - i.1) (i := (k, s)) ((k + 1, ⟨s.M.link n k t9.toNat i9.toNat (false), mdel (at3 v0 v1 v2 ((k + 2) % 3), at3 v0 v1 v2 ((k + 1) % 3)) s.L, s.c⟩)) (μd := [_]) ⟨by omega, by dsimp only; rw [j_three hk3, ← hs]; unfold joinE; rw [hmg]; dsimp only; rw [show flt F (at3 v0 v1 v2 ((k + 1) % 3)) (at3 v0 v1 v2 ((k + 2) % 3)) = (false) from by unfold flt; simp [h43]], fun e he => by dsimp only at he ⊢; rw [link_len]; exact hok e (mdel_mem he), by dsimp only; rw [link_len]; exact hln⟩ (by dsimp only; omega) (And.intro rfl (And.intro rfl (And.intro rfl (And.intro rfl (And.intro rfl (And.intro rfl (trivial))))))) (permI [1, 1, 1] rfl) (fun _ h => nomatch h) (fun _ h => h)
 ·simp only [decide_eq_false_iff_not] at h13
  refine CJ_exit ?_
  refine QJ_then_exit ?_
  refine QJ_then_exit ?_
  refine QJ_in_exit ?_
  have hk9 : k = 3 := by omega
  subst hk9
  have hs9 : s = joinB F n v0 v1 v2 s0 := hs
  subst hs9
  exact QJ_fin (.inr rfl) (μ' := [_, _]) (μr := [_]) (φ' := []) (res_none rfl) (permI [] rfl) (fun _ h => nomatch h) ⟨(), trivial, rfl, rfl, rfl⟩
end Go.Proofs.Ytbanlhlggkdanaa
namespace Go.Proofs.Ytbanlhlggkdanaa
open Go.RowKit
def t3Cells (l : List (Int × Int × Int)) : List Value := l.flatMap fun x => [.int .i64 x.1, .int .i64 x.2.1, .int .i64 x.2.2]
def kCells (l : MapO) : List Value := l.flatMap fun e => [.int .i64 e.1.1, .int .i64 e.1.2]
theorem t3_row : ∀ {l : List (Int × Int × Int)} {i : Nat} {x : Int × Int × Int}, l[i]? = some x → ((t3Cells l).drop (i * 3)).take 3 = [.int .i64 x.1, .int .i64 x.2.1, .int .i64 x.2.2]
 | [], i, x, h => by simp at h
 | u :: l, 0, x, h => by
  simp at h
  subst h
  simp [t3Cells]
 | u :: l, i + 1, x, h => by
  have := t3_row (l := l) (i := i) (x := x) (by simpa using h)
  rw [← this, Nat.succ_mul]
  simp [t3Cells]
theorem k_row : ∀ {l : MapO} {i : Nat} {x : (Int × Int) × (Int × Int) × Nat}, l[i]? = some x → ((kCells l).drop (i * 2)).take 2 = [.int .i64 x.1.1, .int .i64 x.1.2]
 | [], i, x, h => by simp at h
 | u :: l, 0, x, h => by
  simp at h
  subst h
  simp [kCells]
 | u :: l, i + 1, x, h => by
  have := k_row (l := l) (i := i) (x := x) (by simpa using h)
  rw [← this, Nat.succ_mul]
  simp [kCells]
theorem k_app (l : MapO) (e : (Int × Int) × (Int × Int) × Nat) : kCells l ++ [.int .i64 e.1.1, .int .i64 e.1.2] = kCells (l ++ [e]) := by simp [kCells]
structure bOk (n : Nat) (s : BS) : Prop where
 ats : s.M.ats.length = n
 free : ∀ k, k ∈ s.M.free → 0 ≤ k ∧ k < s.M.tris.length
 fl : s.M.free.length ≤ 4
 op : sOk s
 clk : ∀ e, e ∈ s.L → e.2.2 < s.c
 nod : (s.L.map (·.2.2)).Nodup
 key : ∀ e, e ∈ s.L → e.1.1 < n ∧ e.1.2 < n
theorem link_same (M : MD) (t i u j : Nat) (f : Bool) : (M.link t i u j f).free = M.free ∧ (M.link t i u j f).ats = M.ats ∧ (M.link t i u j f).pts = M.pts := ⟨rfl, rfl, rfl⟩
theorem mdel_born {κ ν : Type} [DecidableEq κ] {k : κ} {l : List (κ × ν × Nat)} (h : (l.map (·.2.2)).Nodup) : ((mdel k l).map (·.2.2)).Nodup := by
 unfold mdel
 split
 ·exact h.sublist (List.Sublist.map _ (List.eraseIdx_sublist _ _))
 ·exact h
theorem mput_born {κ ν : Type} [DecidableEq κ] {k : κ} {v : ν} {l : List (κ × ν × Nat)} {c : Nat} (hc : ∀ e, e ∈ l → e.2.2 < c) (h : (l.map (·.2.2)).Nodup) : ((mput k v l c).map (·.2.2)).Nodup ∧ ∀ e, e ∈ mput k v l c → e.2.2 < mclk k l c := by
 unfold mput mclk
 cases hf : mfind k l 0 with
 | some p =>
  obtain ⟨i, v'⟩ := p
  dsimp only
  have e1 : (l.modify i (fun e => (e.1, v, e.2.2))).map (·.2.2) = l.map (·.2.2) := by
   apply List.ext_getElem?
   intro j
   simp only [List.getElem?_map, List.getElem?_modify]
   cases l[j]? with
   | none => simp
   | some e => by_cases hj : i = j <;> simp [hj]
  refine ⟨by rw [e1]; exact h, fun e he => ?_⟩
  have : e.2.2 ∈ l.map (·.2.2) := by rw [← e1]; exact List.mem_map.2 ⟨e, he, rfl⟩
  obtain ⟨e', he', hb⟩ := List.mem_map.1 this
  rw [← hb]; exact hc e' he'
 | none =>
  dsimp only
  refine ⟨?_, fun e he => ?_⟩
  ·rw [List.map_append, List.nodup_append]
   refine ⟨h, by simp, ?_⟩
   intro a ha b hb
   obtain ⟨e, he, rfl⟩ := List.mem_map.1 ha
   simp at hb
   subst hb
   have := hc e he
   omega
  ·rcases List.mem_append.1 he with he | he
   ·have := hc e he; omega
   ·rcases List.mem_singleton.1 he with rfl
    exact Nat.lt_succ_self c
theorem mput_key {κ ν : Type} [DecidableEq κ] {k : κ} {v : ν} {l : List (κ × ν × Nat)} {c : Nat} {e : κ × ν × Nat} (h : e ∈ mput k v l c) : e.1 = k ∨ ∃ e', e' ∈ l ∧ e'.1 = e.1 := by
 unfold mput at h
 split at h
 ·obtain ⟨i, hi⟩ := List.mem_iff_getElem?.1 h
  rw [List.getElem?_modify] at hi
  cases hl : l[i]? with
  | none => rw [hl] at hi; simp at hi
  | some e' =>
   rw [hl] at hi
   refine .inr ⟨e', List.mem_of_getElem? hl, ?_⟩
   simp at hi
   split at hi <;> (subst hi; rfl)
 ·rcases List.mem_append.1 h with h | h
  ·exact .inr ⟨e, h, rfl⟩
  ·rcases List.mem_singleton.1 h with rfl
   exact .inl rfl
theorem at3_lt {v0 v1 v2 : Int} {n : Nat} (h0 : v0 < n) (h1 : v1 < n) (h2 : v2 < n) (j : Nat) : at3 v0 v1 v2 j < n := by unfold at3; split <;> (try split) <;> assumption
theorem joinE_ok {F : MapI} {n t : Nat} {v0 v1 v2 : Int} {s : BS} {i : Nat} (h : bOk n s) (ht : t < s.M.tris.length) (h0 : v0 < n) (h1 : v1 < n) (h2 : v2 < n) (hi : i < 3) :
  bOk n (joinE F t v0 v1 v2 s i) ∧ (joinE F t v0 v1 v2 s i).M.tris.length = s.M.tris.length ∧ (joinE F t v0 v1 v2 s i).M.pts = s.M.pts ∧ (joinE F t v0 v1 v2 s i).M.free = s.M.free := by
 unfold joinE
 split
 ·refine ⟨⟨h.ats, fun k hk => by show _ ∧ _ < ((s.M.link _ _ _ _ _).tris.length : Int); rw [link_len]; exact h.free k hk, h.fl, fun e he => ?_, fun e he => h.clk e (mdel_mem he), mdel_born h.nod, fun e he => h.key e (mdel_mem he)⟩, link_len .., rfl, rfl⟩
  dsimp only at he ⊢
  rw [link_len]
  exact h.op e (mdel_mem he)
 ·refine ⟨⟨h.ats, h.free, h.fl, fun e he => ?_, (mput_born h.clk h.nod).2, (mput_born h.clk h.nod).1, fun e he => ?_⟩, rfl, rfl, rfl⟩
  ·rcases mput_mem he with q | q
   ·rw [q]; dsimp only; omega
   ·exact h.op e q
  ·rcases mput_key he with q | ⟨e', q, q2⟩
   ·rw [q]; exact ⟨at3_lt h0 h1 h2 _, at3_lt h0 h1 h2 _⟩
   ·rw [← q2]; exact h.key e' q
theorem joinB_ok {F : MapI} {n t : Nat} {v0 v1 v2 : Int} {s : BS} (h : bOk n s) (ht : t < s.M.tris.length) (h0 : v0 < n) (h1 : v1 < n) (h2 : v2 < n) :
  bOk n (joinB F t v0 v1 v2 s) ∧ (joinB F t v0 v1 v2 s).M.tris.length = s.M.tris.length ∧ (joinB F t v0 v1 v2 s).M.pts = s.M.pts ∧ (joinB F t v0 v1 v2 s).M.free = s.M.free := by
 obtain ⟨a1, a2, a3, a4⟩ := joinE_ok (F := F) (i := 0) h ht h0 h1 h2 (by decide)
 obtain ⟨b1, b2, b3, b4⟩ := joinE_ok (F := F) (i := 1) a1 (by rw [a2]; exact ht) h0 h1 h2 (by decide)
 obtain ⟨c1, c2, c3, c4⟩ := joinE_ok (F := F) (i := 2) b1 (by rw [b2, a2]; exact ht) h0 h1 h2 (by decide)
 exact ⟨c1, by show (joinE F t v0 v1 v2 (joinE F t v0 v1 v2 (joinE F t v0 v1 v2 s 0) 1) 2).M.tris.length = _; rw [c2, b2, a2], by show (joinE F t v0 v1 v2 (joinE F t v0 v1 v2 (joinE F t v0 v1 v2 s 0) 1) 2).M.pts = _; rw [c3, b3, a3], by show (joinE F t v0 v1 v2 (joinE F t v0 v1 v2 (joinE F t v0 v1 v2 s 0) 1) 2).M.free = _; rw [c4, b4, a4]⟩
theorem make_ok {n : Nat} {s : BS} (h : bOk n s) (a b c : Int) : 0 ≤ s.M.nextN ∧ s.M.nextN < (s.M.make a b c).tris.length ∧ s.M.tris.length ≤ (s.M.make a b c).tris.length ∧ (s.M.make a b c).tris.length ≤ s.M.tris.length + 1 ∧ bOk n ⟨s.M.make a b c, s.L, s.c⟩ := by
 have hl : s.M.tris.length ≤ (s.M.make a b c).tris.length ∧ (s.M.make a b c).tris.length ≤ s.M.tris.length + 1 := by
  unfold MD.make
  dsimp only
  split <;> simp
 have hn : 0 ≤ s.M.nextN ∧ s.M.nextN < (s.M.make a b c).tris.length := by
  unfold MD.nextN MD.make
  dsimp only
  cases hf : s.M.free.getLast? with
  | none => simp; omega
  | some k =>
   have := h.free k (List.mem_of_getLast? hf)
   simp; omega
 refine ⟨hn.1, hn.2, hl.1, hl.2, ⟨?_, fun k hk => ?_, ?_, fun e he => ?_, h.clk, h.nod, h.key⟩⟩
 ·show (setAt _ _ _).length = n
  simp [setAt_len, h.ats]
 ·have := h.free k (List.dropLast_subset _ hk)
  show _ ∧ _ < ((s.M.make a b c).tris.length : Int)
  omega
 ·show s.M.free.dropLast.length ≤ 4
  have := h.fl
  simp; omega
 ·have := h.op e he
  show (_ ∧ _ < ((s.M.make a b c).tris.length : Int)) ∧ _
  omega
def stepT (F : MapI) (s : BS) (v : Int × Int × Int) : BS := joinB F s.M.nextN.toNat v.1 v.2.1 v.2.2 ⟨s.M.make v.1 v.2.1 v.2.2, s.L, s.c⟩
theorem stepT_ok {F : MapI} {n : Nat} {s : BS} {v : Int × Int × Int} (h : bOk n s) (h0 : v.1 < n) (h1 : v.2.1 < n) (h2 : v.2.2 < n) : bOk n (stepT F s v) ∧ (stepT F s v).M.tris.length ≤ s.M.tris.length + 1 ∧ (stepT F s v).M.pts = s.M.pts := by
 obtain ⟨a1, a2, a3, a4, a5⟩ := make_ok h v.1 v.2.1 v.2.2
 obtain ⟨b1, b2, b3, _⟩ := joinB_ok (F := F) (t := s.M.nextN.toNat) a5 (by dsimp only; omega) h0 h1 h2
 exact ⟨b1, by unfold stepT; rw [b2]; exact a4, by unfold stepT; rw [b3]; rfl⟩
def mesh0 (pts : List (Int × Int)) (a b c : Int) : MD := ((((newM pts a b c).drop 0).drop 1).drop 2).drop 3
def bs0 (pts : List (Int × Int)) (a b c : Int) : BS := ⟨mesh0 pts a b c, [], 0⟩
theorem bs0_ok (pts : List (Int × Int)) (a b c : Int) : bOk pts.length (bs0 pts a b c) := by
 refine ⟨?_, ?_, ?_, (fun e he => nomatch he), (fun e he => nomatch he), List.nodup_nil, (fun e he => nomatch he)⟩
 ·show (newM pts a b c).ats.length = _
  simp [newM, newM0, MD.make, MD.link, setAt_len]
 ·intro k hk
  have hk' : k ∈ [(0 : Int), 1, 2, 3] := hk
  show 0 ≤ k ∧ k < ((4 : Nat) : Int)
  simp at hk'
  omega
 ·show 4 ≤ 4
  exact Nat.le_refl _
end Go.Proofs.Ytbanlhlggkdanaa
namespace Go.Proofs.Ytbanlhlggkdanaa
open Go.RowKit
theorem elt_47 : elt Try.prog 47 = some (34, 3, 24) := by kernel_rfl
theorem elt_149 : elt Try.prog 149 = some (46, 2, 16) := by kernel_rfl
theorem tyi_46 : tyi Try.prog 46 = some (true, 2) := by kernel_rfl
theorem ent_58 : Enter Try.prog 58 = true := by kernel_rfl
theorem zer_28 : zer Try.prog 28 = some (.pointer none) := by kernel_rfl
theorem zer_144 : zer Try.prog 144 = some (.map none) := by kernel_rfl
theorem ulen_47 : ((#[47] : Array TypeId)[0]?).bind Try.prog.underlying = some (.slice (Try.prog.elem ((#[47] : Array TypeId).getD 0 0))) := by kernel_rfl
theorem ulen_149 : ((#[149] : Array TypeId)[0]?).bind Try.prog.underlying = some (.slice (Try.prog.elem ((#[149] : Array TypeId).getD 0 0))) := by kernel_rfl
theorem zer_46 : zer Try.prog 46 = some (.agg #[.int .i64 0, .int .i64 0]) := by kernel_rfl
theorem arrt_46 : arrt Try.prog 46 = some (2, 3, 1) := by kernel_rfl
theorem born_eq {L : MapO} (hn : (L.map (·.2.2)).Nodup) {e e' : (Int × Int) × (Int × Int) × Nat} (h : e ∈ L) (h' : e' ∈ L) (hb : e.2.2 = e'.2.2) : e = e' := by
 induction L with
 | nil => cases h
 | cons x L ih =>
  rw [List.map_cons, List.nodup_cons] at hn
  rcases List.mem_cons.1 h with rfl | h1
  ·rcases List.mem_cons.1 h' with rfl | h'
   ·rfl
   ·exact absurd (hb ▸ List.mem_map.2 ⟨e', h', rfl⟩) hn.1
  ·rcases List.mem_cons.1 h' with rfl | h2
   ·exact absurd (hb ▸ List.mem_map.2 ⟨e, h1, rfl⟩) hn.1
   ·exact ih hn.2 h1 h2
theorem nodup_of_map {α β : Type} {f : α → β} : ∀ {l : List α}, (l.map f).Nodup → l.Nodup
 | [], _ => List.nodup_nil
 | x :: l, h => by
  rw [List.map_cons, List.nodup_cons] at h
  rw [List.nodup_cons]
  exact ⟨fun q => h.1 (List.mem_map.2 ⟨x, q, rfl⟩), nodup_of_map h.2⟩
theorem perm_end {L vis : MapO} (hn : (L.map (·.2.2)).Nodup) (hv : (vis.map (·.2.2)).Nodup) (hs : ∀ e, e ∈ vis → e ∈ L) (he : leftL L (vis.map (·.2.2)) = []) : vis.Perm L := by
 rw [List.perm_ext_iff_of_nodup (nodup_of_map hv) (nodup_of_map hn)]
 intro e
 refine ⟨hs e, fun h => ?_⟩
 have h1 : ¬ e ∈ leftL L (vis.map (·.2.2)) := by rw [he]; simp
 unfold leftL at h1
 rw [List.mem_filter] at h1
 have h2 : e.2.2 ∈ vis.map (·.2.2) := by
  apply Classical.byContradiction
  intro q
  exact h1 ⟨h, by simpa using q⟩
 obtain ⟨e', he', hb⟩ := List.mem_map.1 h2
 rw [born_eq hn h (hs e' he') hb.symm]
 exact he'
theorem left_lt {L : MapO} {seen : List Nat} {e : (Int × Int) × (Int × Int) × Nat} (h : e ∈ leftL L seen) : (leftL L (seen ++ [e.2.2])).length < (leftL L seen).length := by
 have e1 : leftL L (seen ++ [e.2.2]) = (leftL L seen).filter (fun x => !(x.2.2 == e.2.2)) := by
  unfold leftL
  rw [List.filter_filter]
  congr 1
  funext x
  simp only [List.contains_append, List.contains_cons, List.contains_nil, Bool.or_false, Bool.not_or]
  exact Bool.and_comm _ _
 rw [e1]
 exact List.length_filter_lt_length_iff_exists.2 ⟨e, h, by simp⟩
theorem left_mem {L : MapO} {seen : List Nat} {e : (Int × Int) × (Int × Int) × Nat} (h : e ∈ leftL L seen) : e ∈ L ∧ ¬ e.2.2 ∈ seen := by
 unfold leftL at h
 rw [List.mem_filter] at h
 exact ⟨h.1, by simpa using h.2⟩
def buildR (F : MapI) (pts : List (Int × Int)) (a b c : Int) (tris : List (Int × Int × Int)) : BS := tris.foldl (stepT F) (bs0 pts a b c)
def stepG (F : MapI) (s : BS) (e : (Int × Int) × (Int × Int) × Nat) : BS := stepT F s (e.1.2, e.1.1, -1)
def buildG (F : MapI) (s : BS) (border : MapO) : BS := border.foldl (stepG F) s
theorem foldR_ok {F : MapI} {n : Nat} {s : BS} : ∀ {l : List (Int × Int × Int)}, bOk n s → (∀ v, v ∈ l → v.1 < n ∧ v.2.1 < n ∧ v.2.2 < n) → bOk n (l.foldl (stepT F) s) ∧ (l.foldl (stepT F) s).M.tris.length ≤ s.M.tris.length + l.length ∧ (l.foldl (stepT F) s).M.pts = s.M.pts
 | [], h, _ => ⟨h, by simp, rfl⟩
 | v :: l, h, hv => by
  obtain ⟨h0, h1, h2⟩ := hv v (.head _)
  obtain ⟨a1, a2, a3⟩ := stepT_ok (F := F) h h0 h1 h2
  obtain ⟨b1, b2, b3⟩ := foldR_ok (F := F) (l := l) a1 (fun u hu => hv u (.tail _ hu))
  refine ⟨b1, ?_, ?_⟩
  ·rw [List.foldl_cons, List.length_cons]; omega
  ·rw [List.foldl_cons, b3, a3]
theorem mput_len {κ ν : Type} [DecidableEq κ] {k : κ} {v : ν} {l : List (κ × ν × Nat)} {c : Nat} : (mput k v l c).length ≤ l.length + 1 := by
 unfold mput
 split <;> simp
theorem mdel_len {κ ν : Type} [DecidableEq κ] {k : κ} {l : List (κ × ν × Nat)} : (mdel k l).length ≤ l.length := by
 unfold mdel
 split
 ·exact (List.eraseIdx_sublist _ _).length_le
 ·exact Nat.le_refl _
theorem joinE_L {F : MapI} {t : Nat} {v0 v1 v2 : Int} {s : BS} {i : Nat} : (joinE F t v0 v1 v2 s i).L.length ≤ s.L.length + 1 := by
 unfold joinE
 split
 ·exact Nat.le_succ_of_le mdel_len
 ·exact mput_len
theorem foldR_L {F : MapI} : ∀ (l : List (Int × Int × Int)) {s : BS}, (l.foldl (stepT F) s).L.length ≤ s.L.length + 3 * l.length
 | [], s => by simp
 | v :: l, s => by
  have h1 := foldR_L (F := F) l (s := stepT F s v)
  have h2 : (stepT F s v).L.length ≤ s.L.length + 3 := by
   show (joinE F _ _ _ _ (joinE F _ _ _ _ (joinE F _ _ _ _ _ 0) 1) 2).L.length ≤ _
   exact Nat.le_trans joinE_L (Nat.succ_le_succ (Nat.le_trans joinE_L (Nat.succ_le_succ joinE_L)))
  rw [List.foldl_cons, List.length_cons]
  omega
theorem take_step {α : Type} {l : List α} {k : Nat} {x : α} {β : Type} (g : β → α → β) (b : β) (h : l[k]? = some x) : (l.take (k + 1)).foldl g b = g ((l.take k).foldl g b) x := by
 rw [List.take_add_one, h, List.foldl_append]; rfl
theorem get_at {α : Type} {l : List α} {k : Nat} (h : ((k : Nat) : Int) < (l.length : Nat)) : ∃ x, l[k]? = some x := ⟨l[k]'(by omega), List.getElem?_eq_getElem (by omega)⟩
theorem newM_len (pts : List (Int × Int)) (a b c : Int) : (newM pts a b c).tris.length = 4 := rfl
theorem newM_free (pts : List (Int × Int)) (a b c : Int) : (newM pts a b c).free = [] := rfl
def buildFs (A TA : Option Addr) (rf : Nat) (pts : List (Int × Int)) (tris : List (Int × Int × Int)) (F : MapI) (cF : Nat) : List Res := [sliceR 2 A pts.length (ptCells pts), sliceR 3 TA tris.length (t3Cells tris), mapR rf fK gI F cF]
set_option maxRecDepth 100000 in
set_option maxHeartbeats 16000000 in
theorem build_c {A TA : Option Addr} {pts : List (Int × Int)} {cp cT rf a b c : Nat} {rest : List (Int × Int × Int)} {F : MapI} {cF : Nat} (hpl : pts.length ≤ 100000) (hrl : rest.length ≤ 100000) (hv1 : ∀ x, x ∈ [(a, b, c)] → x.1 < pts.length ∧ x.2.1 < pts.length ∧ x.2.2 < pts.length) (hv : ∀ x, x ∈ rest → x.1 < pts.length ∧ x.2.1 < pts.length ∧ x.2.2 < pts.length) (hP : ∀ j, j < pts.length → P2 (pts.getD j (0, 0)).1 (pts.getD j (0, 0)).2) (hA : 0 < pA pts a b c) : Tri Try.prog 58 [.slice A pts.length cp, .slice TA (((a : Int), (b : Int), (c : Int)) :: rest).length cT, .map (some rf)] [] (buildFs A TA rf pts (((a : Int), (b : Int), (c : Int)) :: rest) F cF) (RetX (fun (x : Nat × MapO) => x.2.Perm (buildR F pts a b c (((a : Int), (b : Int), (c : Int)) :: rest)).L) (fun x => .pointer (some ⟨x.1, 0, none⟩)) (fun x => [meshR x.1 (buildG F (buildR F pts a b c (((a : Int), (b : Int), (c : Int)) :: rest)) x.2).M]) (fun _ => [])) := by
 refine Tri_of (N := 104) Try.func58 rfl ent_58 rfl rfl ?_
 intro w0 S0 T0
 show CJ _ _ _ [(0, _), (1, _), (2, _)] _ _
 have hva : ∀ x, x ∈ (((a : Int), (b : Int), (c : Int)) :: rest) → x.1 < pts.length ∧ x.2.1 < pts.length ∧ x.2.2 < pts.length := by
  intro x hx
  rcases List.mem_cons.1 hx with rfl | hx
  ·have := hv1 _ (.head _); dsimp only at this ⊢; omega
  ·exact hv x hx
 have hp0 : 0 < pts.length := by have := (hv1 _ (.head _)).1; omega
 have hTL : (((a : Int), (b : Int), (c : Int)) :: rest).length ≤ 100001 := by simp; omega
 refine CJ_seq ?_
 refine CJ_reg ?_
 refine LJ_box (cs := #[_]) rfl rfl rfl rfl ?_
 intro b1
 refine LJ_freeze ?_
 refine LJ_addF (r' := sliceR 1 (some ⟨b1, 0, none⟩) 1 [.map (some rf)]) (.head _) (fun w S h => cellsR_slice (n := 1) rfl w S h) ?_
 refine LJ_y rfl rfl (YJ_assign rfl) ?_
 refine LJ_nil ?_
 refine QJ_then ?_
 refine CJ_seq ?_
 refine CJ_regDA mix (by kernel_rfl) (fun _ _ _ _ _ h => h) _ _ (fun _ h => h) (fun _ h => h) [⟨17, 7, 28, #[.pointer none]⟩] 19 rfl (And.intro ⟨_, _, _, _, rfl, zer_28, rfl⟩ (trivial)) rfl rfl ?_
 refine AA_y 0 rfl (by kernel_rfl) rfl rfl rfl (YJ_move rfl) ?_
 refine AA_y 1 rfl (by kernel_rfl) rfl rfl rfl (YJ_move rfl) ?_
 refine AA_y 2 rfl (by kernel_rfl) rfl rfl rfl (YJ_ixFact (n' := (((a : Int), (b : Int), (c : Int)) :: rest).length) rfl rfl elt_47 m3 (by decide) (by omega) (by simp only [List.length_cons]; omega) (by simp only [List.length_cons]; omega)) ?_
 refine AA_y 3 rfl (by kernel_rfl) rfl rfl rfl (YJ_ixArrP rfl rfl arrt_34 (by omega) (by omega)) ?_
 refine AA_y 4 rfl (by kernel_rfl) rfl rfl rfl (YJ_loadFactP (A := TA) (j := (0 : Int).toNat * 3 + (0 : Int).toNat * 1) (xs := t3Cells (((a : Int), (b : Int), (c : Int)) :: rest)) rfl (Addr.add_add ..) tyi_3 m3 rfl) ?_
 refine AA_y 5 rfl (by kernel_rfl) rfl rfl rfl (YJ_move rfl) ?_
 refine AA_y 6 rfl (by kernel_rfl) rfl rfl rfl (YJ_ixFact (n' := (((a : Int), (b : Int), (c : Int)) :: rest).length) rfl rfl elt_47 m3 (by decide) (by omega) (by simp only [List.length_cons]; omega) (by simp only [List.length_cons]; omega)) ?_
 refine AA_y 7 rfl (by kernel_rfl) rfl rfl rfl (YJ_ixArrP rfl rfl arrt_34 (by omega) (by omega)) ?_
 refine AA_y 8 rfl (by kernel_rfl) rfl rfl rfl (YJ_loadFactP (A := TA) (j := (0 : Int).toNat * 3 + (1 : Int).toNat * 1) (xs := t3Cells (((a : Int), (b : Int), (c : Int)) :: rest)) rfl (Addr.add_add ..) tyi_3 m3 rfl) ?_
 refine AA_y 9 rfl (by kernel_rfl) rfl rfl rfl (YJ_move rfl) ?_
 refine AA_y 10 rfl (by kernel_rfl) rfl rfl rfl (YJ_ixFact (n' := (((a : Int), (b : Int), (c : Int)) :: rest).length) rfl rfl elt_47 m3 (by decide) (by omega) (by simp only [List.length_cons]; omega) (by simp only [List.length_cons]; omega)) ?_
 refine AA_y 11 rfl (by kernel_rfl) rfl rfl rfl (YJ_ixArrP rfl rfl arrt_34 (by omega) (by omega)) ?_
 refine AA_y 12 rfl (by kernel_rfl) rfl rfl rfl (YJ_loadFactP (A := TA) (j := (0 : Int).toNat * 3 + (2 : Int).toNat * 1) (xs := t3Cells (((a : Int), (b : Int), (c : Int)) :: rest)) rfl (Addr.add_add ..) tyi_3 m3 rfl) ?_
 refine AA_callN 13 rfl (by kernel_rfl) rfl rfl rfl rfl rfl rfl rfl (new_pos (pts := pts) (a := a) (b := b) (c := c) hpl (hv1 _ (.head _)).1 (hv1 _ (.head _)).2.1 (hv1 _ (.head _)).2.2 hP hA) (fun r h => by rw [List.mem_singleton] at h; subst h; simp [buildFs]) ?_
 intro Bm _
 refine AA_y 14 rfl (by kernel_rfl) rfl rfl rfl (YJ_move rfl) ?_
 refine AA_y 15 rfl (by kernel_rfl) rfl rfl rfl (YJ_extract rfl rfl) ?_
 refine AA_y 16 rfl (by kernel_rfl) rfl rfl rfl (YJ_extract rfl rfl) ?_
 refine AA_end (by kernel_rfl) rfl ?_
 intro bs hbs
 obtain ⟨b2, rfl⟩ := len_1 hbs
 clear hbs
 show AJ _ _ _ _ _ _ _ ((7, .pointer (some ⟨b2, 0, none⟩)) :: _) (cellsR b2 _ _ :: _) _
 refine AJ_store (cs' := #[_]) (μ' := [_, _]) 18 0 rfl (by kernel_rfl) rfl rfl rfl rfl tyi_28 rfl (Nat.le_of_ble_eq_true rfl) rfl rfl rfl (fun _ => AllIn.sub (trivial)) ?_
 refine AJ_y 19 rfl (by kernel_rfl) (by kernel_rfl) rfl rfl (YJ_assign rfl) ?_
 refine AJ_done (by kernel_rfl) ?_
 refine QJ_then ?_
 refine CJ_seq ?_
 refine CJ_seq ?_
 refine CJ_reg ?_
 refine LJ_y rfl rfl (YJ_move rfl) ?_
 refine LJ_y rfl rfl (YJ_not rfl) ?_
 refine LJ_nil ?_
 refine QJ_then ?_
 refine CJ_condF rfl ?_
 refine CJ_skip ?_
 refine QJ_then ?_
 refine CJ_seq ?_
 refine CJ_seq ?_
 refine CJ_openAt (f := meshL Bm (newM pts a b c)) 1 rfl (fun hd => ?_)
 obtain ⟨P9, cP9, T9, cT9, F9, cF9, A9, cA9⟩ := hd
 show CJ _ _ _ _ (_ :: _ :: _ :: _ :: _ :: _ :: _) _
 refine CJ_reg ?_
 refine LJ_y rfl rfl (YJ_loadL rfl tyi_28 m5 rfl) ?_
 refine LJ_y rfl rfl (YJ_nilCheck rfl) ?_
 refine LJ_y rfl rfl (YJ_fieldOwn rfl fld_57_1 rfl) ?_
 refine LJ_y rfl rfl (YJ_loadL rfl tyi_54 m0 rfl) ?_
 refine LJ_y rfl rfl (YJ_len rfl ulen_54 rfl) ?_
 refine LJ_val (v := .int .i64 4) (rfl) ?_
 refine LJ_closeMesh (newM pts a b c) (μr := [_]) (permI [] rfl) ⟨rfl, rfl⟩ ⟨rfl, rfl⟩ ⟨rfl, rfl⟩ ⟨rfl, rfl⟩ ?_
 refine LJ_y rfl rfl (YJ_move rfl) ?_
 refine LJ_nil ?_
 refine QJ_then ?_
 refine CJ_block ?_
 refine CJ_loopN 5 ?_
 refine CN_succ ?_
 refine CJ_seq ?_
 refine CJ_reg ?_
 refine LJ_y rfl rfl (YJ_bin rfl rfl rfl) ?_
 refine LJ_nil ?_
 refine QJ_then ?_
 refine CJ_seq ?_
 refine CJ_condT rfl ?_
 refine CJ_skip ?_
 refine QJ_then ?_
 refine CJ_seq ?_
 refine CJ_block ?_
 refine CJ_seq ?_
 refine CJ_reg ?_
 refine LJ_y rfl rfl (YJ_move rfl) ?_
 refine LJ_y rfl rfl (YJ_assign rfl) ?_
 refine LJ_nil ?_
 refine QJ_then ?_
 refine CJ_reg ?_
 refine LJ_y rfl rfl (YJ_loadL rfl tyi_28 m1 rfl) ?_
 refine LJ_y rfl rfl (YJ_move rfl) ?_
 refine LJ_val (v := .int .i64 ((0 : Nat) : Int)) (rfl) ?_
 refine LJ_call1 0 rfl rfl rfl rfl rfl rfl (drop_c (t := 0) (by simp [MD.drop, newM_len, newM_free]; try omega) (by simp [MD.drop, newM_len, newM_free]; try omega) (by simp [MD.drop, newM_len, newM_free]; try omega)) (fun _ h => nomatch h) ?_
 show LJ _ _ _ _ _ (_ :: _ :: _) _
 refine LJ_nil ?_
 refine QJ_in_normal ?_
 refine QJ_then ?_
 refine CJ_reg ?_
 refine LJ_y rfl rfl (YJ_bin rfl rfl (iop_add (by omega))) ?_
 refine LJ_y rfl rfl (YJ_move rfl) ?_
 refine LJ_nil ?_
 refine QJ_thenN ?_
 refine CN_succ ?_
 refine CJ_seq ?_
 refine CJ_reg ?_
 refine LJ_y rfl rfl (YJ_bin rfl rfl rfl) ?_
 refine LJ_nil ?_
 refine QJ_then ?_
 refine CJ_seq ?_
 refine CJ_condT rfl ?_
 refine CJ_skip ?_
 refine QJ_then ?_
 refine CJ_seq ?_
 refine CJ_block ?_
 refine CJ_seq ?_
 refine CJ_reg ?_
 refine LJ_y rfl rfl (YJ_move rfl) ?_
 refine LJ_y rfl rfl (YJ_assign rfl) ?_
 refine LJ_nil ?_
 refine QJ_then ?_
 refine CJ_reg ?_
 refine LJ_y rfl rfl (YJ_loadL rfl tyi_28 m1 rfl) ?_
 refine LJ_y rfl rfl (YJ_move rfl) ?_
 refine LJ_val (v := .int .i64 ((1 : Nat) : Int)) (rfl) ?_
 refine LJ_call1 0 rfl rfl rfl rfl rfl rfl (drop_c (t := 1) (by simp [MD.drop, newM_len, newM_free]; try omega) (by simp [MD.drop, newM_len, newM_free]; try omega) (by simp [MD.drop, newM_len, newM_free]; try omega)) (fun _ h => nomatch h) ?_
 show LJ _ _ _ _ _ (_ :: _ :: _) _
 refine LJ_nil ?_
 refine QJ_in_normal ?_
 refine QJ_then ?_
 refine CJ_reg ?_
 refine LJ_y rfl rfl (YJ_bin rfl rfl (iop_add (by omega))) ?_
 refine LJ_y rfl rfl (YJ_move rfl) ?_
 refine LJ_nil ?_
 refine QJ_thenN ?_
 refine CN_succ ?_
 refine CJ_seq ?_
 refine CJ_reg ?_
 refine LJ_y rfl rfl (YJ_bin rfl rfl rfl) ?_
 refine LJ_nil ?_
 refine QJ_then ?_
 refine CJ_seq ?_
 refine CJ_condT rfl ?_
 refine CJ_skip ?_
 refine QJ_then ?_
 refine CJ_seq ?_
 refine CJ_block ?_
 refine CJ_seq ?_
 refine CJ_reg ?_
 refine LJ_y rfl rfl (YJ_move rfl) ?_
 refine LJ_y rfl rfl (YJ_assign rfl) ?_
 refine LJ_nil ?_
 refine QJ_then ?_
 refine CJ_reg ?_
 refine LJ_y rfl rfl (YJ_loadL rfl tyi_28 m1 rfl) ?_
 refine LJ_y rfl rfl (YJ_move rfl) ?_
 refine LJ_val (v := .int .i64 ((2 : Nat) : Int)) (rfl) ?_
 refine LJ_call1 0 rfl rfl rfl rfl rfl rfl (drop_c (t := 2) (by simp [MD.drop, newM_len, newM_free]; try omega) (by simp [MD.drop, newM_len, newM_free]; try omega) (by simp [MD.drop, newM_len, newM_free]; try omega)) (fun _ h => nomatch h) ?_
 show LJ _ _ _ _ _ (_ :: _ :: _) _
 refine LJ_nil ?_
 refine QJ_in_normal ?_
 refine QJ_then ?_
 refine CJ_reg ?_
 refine LJ_y rfl rfl (YJ_bin rfl rfl (iop_add (by omega))) ?_
 refine LJ_y rfl rfl (YJ_move rfl) ?_
 refine LJ_nil ?_
 refine QJ_thenN ?_
 refine CN_succ ?_
 refine CJ_seq ?_
 refine CJ_reg ?_
 refine LJ_y rfl rfl (YJ_bin rfl rfl rfl) ?_
 refine LJ_nil ?_
 refine QJ_then ?_
 refine CJ_seq ?_
 refine CJ_condT rfl ?_
 refine CJ_skip ?_
 refine QJ_then ?_
 refine CJ_seq ?_
 refine CJ_block ?_
 refine CJ_seq ?_
 refine CJ_reg ?_
 refine LJ_y rfl rfl (YJ_move rfl) ?_
 refine LJ_y rfl rfl (YJ_assign rfl) ?_
 refine LJ_nil ?_
 refine QJ_then ?_
 refine CJ_reg ?_
 refine LJ_y rfl rfl (YJ_loadL rfl tyi_28 m1 rfl) ?_
 refine LJ_y rfl rfl (YJ_move rfl) ?_
 refine LJ_val (v := .int .i64 ((3 : Nat) : Int)) (rfl) ?_
 refine LJ_call1 0 rfl rfl rfl rfl rfl rfl (drop_c (t := 3) (by simp [MD.drop, newM_len, newM_free]; try omega) (by simp [MD.drop, newM_len, newM_free]; try omega) (by simp [MD.drop, newM_len, newM_free]; try omega)) (fun _ h => nomatch h) ?_
 show LJ _ _ _ _ _ (_ :: _ :: _) _
 refine LJ_nil ?_
 refine QJ_in_normal ?_
 refine QJ_then ?_
 refine CJ_reg ?_
 refine LJ_y rfl rfl (YJ_bin rfl rfl (iop_add (by omega))) ?_
 refine LJ_y rfl rfl (YJ_move rfl) ?_
 refine LJ_nil ?_
 refine QJ_thenN ?_
 refine CN_succ ?_
 refine CJ_seq ?_
 refine CJ_reg ?_
 refine LJ_y rfl rfl (YJ_bin rfl rfl rfl) ?_
 refine LJ_nil ?_
 refine QJ_then ?_
 refine CJ_seq ?_
 refine CJ_condF rfl ?_
 refine CJ_exit ?_
 refine QJ_then_exit ?_
 refine QJ_then_exit ?_
 refine QJ_in_exit ?_
 refine QJ_then ?_
 refine CJ_seq ?_
 refine CJ_reg ?_
 refine LJ_makeMap rfl rfl ?_
 intro om
 refine LJ_alloc (cs := #[_]) rfl rfl zer_144 rfl ?_
 intro b4
 refine LJ_store (cs' := #[_]) (μ' := [_, _, _, _]) 0 rfl rfl rfl rfl tyi_144 rfl (Nat.le_of_ble_eq_true rfl) rfl rfl rfl ?_
 refine LJ_freeze ?_
 refine LJ_addF (r' := sliceR 1 (some ⟨b4, 0, none⟩) 1 [.map (some om)]) (.head _) (fun w S h => cellsR_slice (n := 1) rfl w S h) ?_
 refine LJ_nil ?_
 refine QJ_then ?_
 refine CJ_seq ?_
 refine CJ_freezeCells (size := 1) (n := 1) (xs := [.pointer (some ⟨Bm, 0, none⟩)]) 2 rfl rfl rfl ?_
 show CJ _ _ _ _ (_ :: _ :: _) _
 refine CJ_reg ?_
 refine LJ_y rfl rfl (YJ_makeFunc (vs := []) (us := [_, _, _]) rfl rfl) ?_
 refine LJ_y rfl rfl (YJ_assign rfl) ?_
 refine LJ_nil ?_
 refine QJ_then ?_
 refine CJ_seq ?_
 refine CJ_seq ?_
 refine CJ_reg ?_
 refine LJ_y rfl rfl (YJ_move rfl) ?_
 refine LJ_y rfl rfl (YJ_len rfl ulen_47 rfl) ?_
 refine LJ_y rfl rfl (YJ_move rfl) ?_
 refine LJ_nil ?_
 refine QJ_then ?_
 refine CJ_block ?_
 refine CJ_loopF (F := fun (i : Nat × BS) => ⟨[(1, .slice TA (((a : Int), (b : Int), (c : Int)) :: rest).length cT), (7, .pointer (some ⟨b2, 0, none⟩)), (10, .pointer (some ⟨b4, 0, none⟩)), (11, .func (.func 86) #[] #[.pointer (some ⟨b4, 0, none⟩), .pointer (some ⟨b2, 0, none⟩), .pointer (some ⟨b1, 0, none⟩)]), (52, .slice TA (((a : Int), (b : Int), (c : Int)) :: rest).length cT), (53, .int .i64 (((a : Int), (b : Int), (c : Int)) :: rest).length), (54, .int .i64 (i.1 : Nat))], [mapR om fK fK i.2.L i.2.c, meshR Bm i.2.M], []⟩) (I := fun (i : Nat × BS) => i.1 ≤ (((a : Int), (b : Int), (c : Int)) :: rest).length ∧ i.2 = ((((a : Int), (b : Int), (c : Int)) :: rest).take i.1).foldl (stepT F) (bs0 pts a b c) ∧ bOk pts.length i.2 ∧ i.2.M.tris.length ≤ 4 + i.1) (m := fun (i : Nat × BS) => (((a : Int), (b : Int), (c : Int)) :: rest).length - i.1) (0, bs0 pts a b c) (μr := []) ⟨Nat.zero_le _, rfl, bs0_ok pts a b c, Nat.le_refl _⟩ (And.intro rfl (And.intro rfl (And.intro rfl (And.intro rfl (And.intro rfl (And.intro rfl (And.intro rfl (trivial)))))))) (permI [] rfl) (fun _ h => nomatch h) ?_
 rintro ⟨k, s⟩ ⟨hk, hs, hb, hl⟩
 try dsimp only at hk
 try dsimp only at hs
 try dsimp only at hb
 try dsimp only at hl
 show CJ _ _ _ [(1, .slice TA (((a : Int), (b : Int), (c : Int)) :: rest).length cT), (7, .pointer (some ⟨b2, 0, none⟩)), (10, .pointer (some ⟨b4, 0, none⟩)), (11, .func (.func 86) #[] #[.pointer (some ⟨b4, 0, none⟩), .pointer (some ⟨b2, 0, none⟩), .pointer (some ⟨b1, 0, none⟩)]), (52, .slice TA (((a : Int), (b : Int), (c : Int)) :: rest).length cT), (53, .int .i64 (((a : Int), (b : Int), (c : Int)) :: rest).length), (54, .int .i64 (k : Nat))] (mapR om fK fK s.L s.c :: meshR Bm s.M :: _) _
 refine CJ_seq ?_
 refine CJ_reg ?_
 refine LJ_y rfl rfl (YJ_bin rfl rfl rfl) ?_
 refine LJ_nil ?_
 refine QJ_then ?_
 refine CJ_seq ?_
 refine CJ_cond rfl (fun h55 => ?_) (fun h55 => ?_)
 ·simp only [decide_eq_true_eq] at h55
  obtain ⟨x, hx⟩ := get_at h55
  have hxm := hva x (List.mem_of_getElem? hx)
  obtain ⟨hx0, hx1, hx2⟩ := hxm
  obtain ⟨hn0, hn1, hm0, hm1, hmk⟩ := make_ok hb (x.1) (x.2.1) (x.2.2)
  refine CJ_skip ?_
  refine QJ_then ?_
  refine CJ_seq ?_
  refine CJ_block ?_
  refine CJ_seq ?_
  refine CJ_reg ?_
  refine LJ_y rfl rfl (YJ_ixFact (n' := (((a : Int), (b : Int), (c : Int)) :: rest).length) rfl rfl elt_47 m6 (by decide) (by omega) (by omega) (by omega)) ?_
  refine LJ_y rfl rfl (YJ_loadFactN (vs := [.int .i64 x.1, .int .i64 x.2.1, .int .i64 x.2.2]) (xs := t3Cells (((a : Int), (b : Int), (c : Int)) :: rest)) rfl tyi_34 m6 (t3_row hx) rfl) ?_
  refine LJ_alloc (cs := #[_, _, _]) rfl rfl zer_34 rfl ?_
  intro b5
  refine LJ_store (cs' := #[_, _, _]) (μ' := [_, _, _]) 0 rfl rfl rfl rfl tyi_34 rfl (Nat.le_of_ble_eq_true rfl) rfl rfl rfl ?_
  refine LJ_nil ?_
  refine QJ_then ?_
  refine CJ_regD mix (by kernel_rfl) (fun _ _ _ _ _ h => h) (selR [0] _) _ (selR_sub _ _) (fun _ h => h) ?_
  refine AJ_y 0 rfl (by kernel_rfl) (by kernel_rfl) rfl rfl (YJ_move rfl) ?_
  refine AJ_y 1 rfl (by kernel_rfl) (by kernel_rfl) rfl rfl (YJ_loadFactP (A := some ⟨b2, 0, none⟩) (j := 0) rfl rfl tyi_28 m0 rfl) ?_
  refine AJ_y 2 rfl (by kernel_rfl) (by kernel_rfl) rfl rfl (YJ_ixArr rfl rfl arrt_34 (by omega) (by omega) rfl) ?_
  refine AJ_y 3 rfl (by kernel_rfl) (by kernel_rfl) rfl rfl (YJ_loadL rfl tyi_3 m0 rfl) ?_
  refine AJ_y 4 rfl (by kernel_rfl) (by kernel_rfl) rfl rfl (YJ_ixArr rfl rfl arrt_34 (by omega) (by omega) rfl) ?_
  refine AJ_y 5 rfl (by kernel_rfl) (by kernel_rfl) rfl rfl (YJ_loadL rfl tyi_3 m0 rfl) ?_
  refine AJ_y 6 rfl (by kernel_rfl) (by kernel_rfl) rfl rfl (YJ_ixArr rfl rfl arrt_34 (by omega) (by omega) rfl) ?_
  refine AJ_y 7 rfl (by kernel_rfl) (by kernel_rfl) rfl rfl (YJ_loadL rfl tyi_3 m0 rfl) ?_
  refine AJ_y 9 rfl (by kernel_rfl) (by kernel_rfl) rfl rfl (YJ_loadN (vs := [_, _, _]) rfl tyi_34 m0 rfl rfl) ?_
  refine AJ_call1 8 2 rfl (by kernel_rfl) rfl rfl rfl rfl rfl rfl (make_c (a := x.1) (b := x.2.1) (c := x.2.2) (by omega) (by have := hb.fl; omega) hb.free (by rw [hb.ats]; omega) (by rw [hb.ats]; omega) (by rw [hb.ats]; omega) (by rw [hb.ats]; exact hp0)) (fun _ h => nomatch h) (AllIn.sub (And.intro m0 (trivial))) ?_
  show AJ _ _ _ _ _ _ _ _ (_ :: _ :: _ :: _) _
  refine AJ_val (v := .int .i64 ((s.M.nextN.toNat : Nat) : Int)) (congrArg (Value.int .i64) (by omega)) ?_
  refine AJ_callP (μ1 := [_, _]) (μr := [_]) 10 rfl (by kernel_rfl) (permI [1, 1] rfl) rfl rfl rfl rfl rfl (join_c (bo := b4) (ro := om) (bm := b2) (B := Bm) (bf := b1) (rf := rf) (F := F) (cF := cF) (n := s.M.nextN.toNat) (s0 := ⟨s.M.make (x.1) (x.2.1) (x.2.2), s.L, s.c⟩) (by dsimp only; omega) (by dsimp only; omega) hmk.op) (fun r hr => by simp only [joinFs, buildFs, List.mem_cons, List.not_mem_nil, or_false, List.append_assoc, List.cons_append, List.nil_append] at *; grind) (fun _ => AllIn.sub (And.intro m2 (trivial))) ?_
  intro _ _
  show AJ _ _ _ _ _ _ _ _ (_ :: _ :: _ :: _) _
  refine AJ_done (by kernel_rfl) ?_
  refine QJ_in_normal ?_
  refine QJ_then ?_
  refine CJ_reg ?_
  refine LJ_y rfl rfl (YJ_bin rfl rfl (iop_add (by omega))) ?_
  refine LJ_y rfl rfl (YJ_move rfl) ?_
  refine LJ_nil ?_
  refine QJ_roundF (F := fun (i : Nat × BS) => ⟨[(1, .slice TA (((a : Int), (b : Int), (c : Int)) :: rest).length cT), (7, .pointer (some ⟨b2, 0, none⟩)), (10, .pointer (some ⟨b4, 0, none⟩)), (11, .func (.func 86) #[] #[.pointer (some ⟨b4, 0, none⟩), .pointer (some ⟨b2, 0, none⟩), .pointer (some ⟨b1, 0, none⟩)]), (52, .slice TA (((a : Int), (b : Int), (c : Int)) :: rest).length cT), (53, .int .i64 (((a : Int), (b : Int), (c : Int)) :: rest).length), (54, .int .i64 (i.1 : Nat))], [mapR om fK fK i.2.L i.2.c, meshR Bm i.2.M], []⟩) (I := fun (i : Nat × BS) => i.1 ≤ (((a : Int), (b : Int), (c : Int)) :: rest).length ∧ i.2 = ((((a : Int), (b : Int), (c : Int)) :: rest).take i.1).foldl (stepT F) (bs0 pts a b c) ∧ bOk pts.length i.2 ∧ i.2.M.tris.length ≤ 4 + i.1) (m := fun (i : Nat × BS) => (((a : Int), (b : Int), (c : Int)) :: rest).length - i.1) (i := (k, s)) ((k + 1, stepT F s x)) (μd := [_]) ⟨by omega, by dsimp only; rw [take_step _ _ hx, ← hs], (stepT_ok hb hx0 hx1 hx2).1, by have := (stepT_ok (F := F) hb hx0 hx1 hx2).2.1; dsimp only; omega⟩ (by dsimp only; omega) (And.intro rfl (And.intro rfl (And.intro rfl (And.intro rfl (And.intro rfl (And.intro rfl (And.intro rfl (trivial)))))))) (permI [] rfl) (fun _ h => nomatch h) (fun _ h => h)
 ·simp only [decide_eq_false_iff_not] at h55
  have hk9 : k = (((a : Int), (b : Int), (c : Int)) :: rest).length := by omega
  have hs9 : s = buildR F pts a b c (((a : Int), (b : Int), (c : Int)) :: rest) := by rw [hs, hk9, List.take_length]; rfl
  subst hs9
  have hbR := hb
  have hLl : (buildR F pts a b c (((a : Int), (b : Int), (c : Int)) :: rest)).L.length ≤ 3 * (((a : Int), (b : Int), (c : Int)) :: rest).length := by have := foldR_L (F := F) (s := bs0 pts a b c) (((a : Int), (b : Int), (c : Int)) :: rest); have h0 : (bs0 pts a b c).L.length = 0 := rfl; rw [h0] at this; rw [Nat.zero_add] at this; exact this
  refine CJ_exit ?_
  refine QJ_then_exit ?_
  refine QJ_then_exit ?_
  refine QJ_in_exit ?_
  refine QJ_then ?_
  refine CJ_seq ?_
  refine CJ_newRow 46 2 ?_
  refine CJ_reg ?_
  refine LJ_y rfl rfl (YJ_assign rfl) ?_
  refine LJ_nil ?_
  refine QJ_then ?_
  refine CJ_seq ?_
  refine CJ_seq ?_
  refine CJ_reg ?_
  refine LJ_y rfl rfl (YJ_loadFactP (A := some ⟨b4, 0, none⟩) (j := 0) rfl rfl tyi_144 m1 rfl) ?_
  refine LJ_range (f := fK) (g := fK) rfl rfl rfl umap_144 (MapAt_own (l := (buildR F pts a b c (((a : Int), (b : Int), (c : Int)) :: rest)).L) (c := (buildR F pts a b c (((a : Int), (b : Int), (c : Int)) :: rest)).c) m1) ?_
  intro it
  refine LJ_nil ?_
  refine QJ_then ?_
  refine CJ_block ?_
  refine CJ_loopF (F := fun (i : MapO × List Nat × Nat × Option Addr × Nat) => ⟨[(1, .slice TA (((a : Int), (b : Int), (c : Int)) :: rest).length cT), (7, .pointer (some ⟨b2, 0, none⟩)), (10, .pointer (some ⟨b4, 0, none⟩)), (11, .func (.func 86) #[] #[.pointer (some ⟨b4, 0, none⟩), .pointer (some ⟨b2, 0, none⟩), .pointer (some ⟨b1, 0, none⟩)]), (14, .slice i.2.2.2.1 i.2.2.1 i.2.2.2.2), (71, .pointer (some ⟨it, 0, none⟩))], [itR it om (buildR F pts a b c (((a : Int), (b : Int), (c : Int)) :: rest)).c i.2.1 (buildR F pts a b c (((a : Int), (b : Int), (c : Int)) :: rest)).c, rowR 46 2 i.2.2.2.1 i.2.2.1 i.2.2.2.2 (kCells i.1)], []⟩) (I := fun (i : MapO × List Nat × Nat × Option Addr × Nat) => i.2.1 = i.1.map (·.2.2) ∧ i.2.2.1 = i.1.length ∧ (i.1.map (·.2.2)).Nodup ∧ (∀ e, e ∈ i.1 → e ∈ (buildR F pts a b c (((a : Int), (b : Int), (c : Int)) :: rest)).L) ∧ (leftL (buildR F pts a b c (((a : Int), (b : Int), (c : Int)) :: rest)).L i.2.1).length + i.1.length ≤ (buildR F pts a b c (((a : Int), (b : Int), (c : Int)) :: rest)).L.length) (m := fun (i : MapO × List Nat × Nat × Option Addr × Nat) => (leftL (buildR F pts a b c (((a : Int), (b : Int), (c : Int)) :: rest)).L i.2.1).length) ([], [], 0, none, 0) (μr := [_, _]) ⟨rfl, rfl, List.nodup_nil, (fun _ h => nomatch h), List.length_filter_le _ _⟩ (And.intro rfl (And.intro rfl (And.intro rfl (And.intro rfl (And.intro rfl (And.intro rfl (trivial))))))) (permI [] rfl) (fun _ h => nomatch h) ?_
  rintro ⟨vis, seen, nv, A0, c0⟩ ⟨hse, hnv, hvn, hvs, hvl⟩
  try dsimp only at hse
  try dsimp only at hnv
  try dsimp only at hvn
  try dsimp only at hvs
  try dsimp only at hvl
  show CJ _ _ _ [(1, .slice TA (((a : Int), (b : Int), (c : Int)) :: rest).length cT), (7, .pointer (some ⟨b2, 0, none⟩)), (10, .pointer (some ⟨b4, 0, none⟩)), (11, .func (.func 86) #[] #[.pointer (some ⟨b4, 0, none⟩), .pointer (some ⟨b2, 0, none⟩), .pointer (some ⟨b1, 0, none⟩)]), (14, .slice A0 nv c0), (71, .pointer (some ⟨it, 0, none⟩))] (itR it om (buildR F pts a b c (((a : Int), (b : Int), (c : Int)) :: rest)).c seen (buildR F pts a b c (((a : Int), (b : Int), (c : Int)) :: rest)).c :: rowR 46 2 A0 nv c0 (kCells vis) :: _ :: _ :: _) _
  refine CJ_seq ?_
  refine CJ_reg ?_
  refine LJ_next (f := fK) (g := fK) 0 rfl rfl rfl rfl (MapAt_own (l := (buildR F pts a b c (((a : Int), (b : Int), (c : Int)) :: rest)).L) (c := (buildR F pts a b c (((a : Int), (b : Int), (c : Int)) :: rest)).c) m2) hb.clk (Nat.le_refl _) (fun h72 => ?_) (fun e72 he72 => ?_)
  ·show LJ _ _ _ _ _ (_ :: _ :: _ :: _ :: _) _
   subst hse
   subst hnv
   have hperm := perm_end hb.nod hvn hvs h72
   have hvl := hperm.length_eq
   refine LJ_y rfl rfl (YJ_extract rfl rfl) ?_
   refine LJ_nil ?_
   refine QJ_then ?_
   refine CJ_seq ?_
   refine CJ_condF rfl ?_
   refine CJ_exit ?_
   refine QJ_then_exit ?_
   refine QJ_then_exit ?_
   refine QJ_in_exit ?_
   refine QJ_then ?_
   refine CJ_seq ?_
   refine CJ_seq ?_
   refine CJ_freezeRowK (n' := vis.length) (xs' := kCells vis) 1 rfl rfl rfl ?_
   show CJ _ _ _ _ (_ :: _ :: _ :: _) _
   refine CJ_reg ?_
   refine LJ_y rfl rfl (YJ_move rfl) ?_
   refine LJ_y rfl rfl (YJ_len rfl ulen_149 rfl) ?_
   refine LJ_y rfl rfl (YJ_move rfl) ?_
   refine LJ_nil ?_
   refine QJ_then ?_
   refine CJ_block ?_
   refine CJ_loopF (F := fun (i : Nat × BS) => ⟨[(1, .slice TA (((a : Int), (b : Int), (c : Int)) :: rest).length cT), (7, .pointer (some ⟨b2, 0, none⟩)), (10, .pointer (some ⟨b4, 0, none⟩)), (11, .func (.func 86) #[] #[.pointer (some ⟨b4, 0, none⟩), .pointer (some ⟨b2, 0, none⟩), .pointer (some ⟨b1, 0, none⟩)]), (80, .slice A0 vis.length c0), (81, .int .i64 vis.length), (82, .int .i64 (i.1 : Nat))], [mapR om fK fK i.2.L i.2.c, meshR Bm i.2.M], []⟩) (I := fun (i : Nat × BS) => i.1 ≤ vis.length ∧ i.2 = (vis.take i.1).foldl (stepG F) (buildR F pts a b c (((a : Int), (b : Int), (c : Int)) :: rest)) ∧ bOk pts.length i.2 ∧ i.2.M.tris.length ≤ 100010 + i.1) (m := fun (i : Nat × BS) => vis.length - i.1) (0, buildR F pts a b c (((a : Int), (b : Int), (c : Int)) :: rest)) (μr := [_]) ⟨Nat.zero_le _, rfl, hb, by dsimp only; omega⟩ (And.intro rfl (And.intro rfl (And.intro rfl (And.intro rfl (And.intro rfl (And.intro rfl (And.intro rfl (trivial)))))))) (permI [1, 1] rfl) (fun _ h => nomatch h) ?_
   rintro ⟨k, s⟩ ⟨hk, hs, hb, hl⟩
   try dsimp only at hk
   try dsimp only at hs
   try dsimp only at hb
   try dsimp only at hl
   show CJ _ _ _ [(1, .slice TA (((a : Int), (b : Int), (c : Int)) :: rest).length cT), (7, .pointer (some ⟨b2, 0, none⟩)), (10, .pointer (some ⟨b4, 0, none⟩)), (11, .func (.func 86) #[] #[.pointer (some ⟨b4, 0, none⟩), .pointer (some ⟨b2, 0, none⟩), .pointer (some ⟨b1, 0, none⟩)]), (80, .slice A0 vis.length c0), (81, .int .i64 vis.length), (82, .int .i64 (k : Nat))] (mapR om fK fK s.L s.c :: meshR Bm s.M :: _ :: _) _
   refine CJ_seq ?_
   refine CJ_reg ?_
   refine LJ_y rfl rfl (YJ_bin rfl rfl rfl) ?_
   refine LJ_nil ?_
   refine QJ_then ?_
   refine CJ_seq ?_
   refine CJ_cond rfl (fun h83 => ?_) (fun h83 => ?_)
   ·simp only [decide_eq_true_eq] at h83
    obtain ⟨e, he⟩ := get_at h83
    have hev := hperm.mem_iff.1 (List.mem_of_getElem? he)
    obtain ⟨he1, he0⟩ := hbR.key e hev
    obtain ⟨hn0, hn1, hm0, hm1, hmk⟩ := make_ok hb (e.1.2) (e.1.1) (-1)
    refine CJ_skip ?_
    refine QJ_then ?_
    refine CJ_seq ?_
    refine CJ_block ?_
    refine CJ_seq ?_
    refine CJ_reg ?_
    refine LJ_y rfl rfl (YJ_ixFact (n' := vis.length) rfl rfl elt_149 m0 (by decide) (by omega) (by omega) (by omega)) ?_
    refine LJ_y rfl rfl (YJ_loadFactN (vs := [.int .i64 e.1.1, .int .i64 e.1.2]) (xs := kCells vis) rfl tyi_46 m0 (k_row he) rfl) ?_
    refine LJ_alloc (cs := #[_, _]) rfl rfl zer_46 rfl ?_
    intro b7
    refine LJ_store (cs' := #[_, _]) (μ' := [_, _, _, _]) 0 rfl rfl rfl rfl tyi_46 rfl (Nat.le_of_ble_eq_true rfl) rfl rfl rfl ?_
    refine LJ_nil ?_
    refine QJ_then ?_
    refine CJ_seq ?_
    refine CJ_reg ?_
    refine LJ_y rfl rfl (YJ_ixArr rfl rfl arrt_46 (by omega) (by omega) rfl) ?_
    refine LJ_y rfl rfl (YJ_loadL rfl tyi_3 m0 rfl) ?_
    refine LJ_y rfl rfl (YJ_ixArr rfl rfl arrt_46 (by omega) (by omega) rfl) ?_
    refine LJ_y rfl rfl (YJ_loadL rfl tyi_3 m0 rfl) ?_
    refine LJ_y rfl rfl (YJ_build1 (cs := [_, _, _]) lay_34 rfl rfl rfl) ?_
    refine LJ_alloc (cs := #[_, _, _]) rfl rfl zer_34 rfl ?_
    intro b8
    refine LJ_store (cs' := #[_, _, _]) (μ' := [_, _, _, _, _]) 0 rfl rfl rfl rfl tyi_34 rfl (Nat.le_of_ble_eq_true rfl) rfl rfl rfl ?_
    refine LJ_nil ?_
    refine QJ_then ?_
    refine CJ_regD mix (by kernel_rfl) (fun _ _ _ _ _ h => h) (selR [0, 1, 4] _) _ (selR_sub _ _) (fun _ h => h) ?_
    refine AJ_y 0 rfl (by kernel_rfl) (by kernel_rfl) rfl rfl (YJ_move rfl) ?_
    refine AJ_y 1 rfl (by kernel_rfl) (by kernel_rfl) rfl rfl (YJ_loadFactP (A := some ⟨b2, 0, none⟩) (j := 0) rfl rfl tyi_28 m1 rfl) ?_
    refine AJ_y 2 rfl (by kernel_rfl) (by kernel_rfl) rfl rfl (YJ_ixArr rfl rfl arrt_34 (by omega) (by omega) rfl) ?_
    refine AJ_y 3 rfl (by kernel_rfl) (by kernel_rfl) rfl rfl (YJ_loadL rfl tyi_3 m0 rfl) ?_
    refine AJ_y 4 rfl (by kernel_rfl) (by kernel_rfl) rfl rfl (YJ_ixArr rfl rfl arrt_34 (by omega) (by omega) rfl) ?_
    refine AJ_y 5 rfl (by kernel_rfl) (by kernel_rfl) rfl rfl (YJ_loadL rfl tyi_3 m0 rfl) ?_
    refine AJ_y 6 rfl (by kernel_rfl) (by kernel_rfl) rfl rfl (YJ_ixArr rfl rfl arrt_34 (by omega) (by omega) rfl) ?_
    refine AJ_y 7 rfl (by kernel_rfl) (by kernel_rfl) rfl rfl (YJ_loadL rfl tyi_3 m0 rfl) ?_
    refine AJ_y 9 rfl (by kernel_rfl) (by kernel_rfl) rfl rfl (YJ_loadN (vs := [_, _, _]) rfl tyi_34 m0 rfl rfl) ?_
    refine AJ_call1 8 3 rfl (by kernel_rfl) rfl rfl rfl rfl rfl rfl (make_c (a := e.1.2) (b := e.1.1) (c := -1) (by omega) (by have := hb.fl; omega) hb.free (by rw [hb.ats]; omega) (by rw [hb.ats]; omega) (by rw [hb.ats]; omega) (by rw [hb.ats]; exact hp0)) (fun _ h => nomatch h) (AllIn.sub (And.intro m0 (And.intro m1 (And.intro m4 (trivial))))) ?_
    show AJ _ _ _ _ _ _ _ _ (_ :: _ :: _ :: _ :: _ :: _) _
    refine AJ_val (v := .int .i64 ((s.M.nextN.toNat : Nat) : Int)) (congrArg (Value.int .i64) (by omega)) ?_
    refine AJ_callP (μ1 := [_, _]) (μr := [_, _, _]) 10 rfl (by kernel_rfl) (permI [2, 2] rfl) rfl rfl rfl rfl rfl (join_c (bo := b4) (ro := om) (bm := b2) (B := Bm) (bf := b1) (rf := rf) (F := F) (cF := cF) (n := s.M.nextN.toNat) (s0 := ⟨s.M.make (e.1.2) (e.1.1) (-1), s.L, s.c⟩) (by dsimp only; omega) (by dsimp only; omega) hmk.op) (fun r hr => by simp only [joinFs, buildFs, List.mem_cons, List.not_mem_nil, or_false, List.append_assoc, List.cons_append, List.nil_append] at *; grind) (fun _ => AllIn.sub (And.intro m2 (And.intro m3 (And.intro m4 (trivial))))) ?_
    intro _ _
    show AJ _ _ _ _ _ _ _ _ (_ :: _ :: _ :: _ :: _ :: _) _
    refine AJ_done (by kernel_rfl) ?_
    refine QJ_in_normal ?_
    refine QJ_then ?_
    refine CJ_reg ?_
    refine LJ_y rfl rfl (YJ_bin rfl rfl (iop_add (by omega))) ?_
    refine LJ_y rfl rfl (YJ_move rfl) ?_
    refine LJ_nil ?_
    refine QJ_roundF (F := fun (i : Nat × BS) => ⟨[(1, .slice TA (((a : Int), (b : Int), (c : Int)) :: rest).length cT), (7, .pointer (some ⟨b2, 0, none⟩)), (10, .pointer (some ⟨b4, 0, none⟩)), (11, .func (.func 86) #[] #[.pointer (some ⟨b4, 0, none⟩), .pointer (some ⟨b2, 0, none⟩), .pointer (some ⟨b1, 0, none⟩)]), (80, .slice A0 vis.length c0), (81, .int .i64 vis.length), (82, .int .i64 (i.1 : Nat))], [mapR om fK fK i.2.L i.2.c, meshR Bm i.2.M], []⟩) (I := fun (i : Nat × BS) => i.1 ≤ vis.length ∧ i.2 = (vis.take i.1).foldl (stepG F) (buildR F pts a b c (((a : Int), (b : Int), (c : Int)) :: rest)) ∧ bOk pts.length i.2 ∧ i.2.M.tris.length ≤ 100010 + i.1) (m := fun (i : Nat × BS) => vis.length - i.1) (i := (k, s)) ((k + 1, stepG F s e)) (μd := [_, _]) ⟨by omega, by dsimp only; rw [take_step _ _ he, ← hs], (stepT_ok hb he0 he1 (by dsimp only; omega)).1, by have := (stepT_ok (F := F) (v := (e.1.2, e.1.1, -1)) hb he0 he1 (by dsimp only; omega)).2.1; dsimp only; unfold stepG; omega⟩ (by dsimp only; omega) (And.intro rfl (And.intro rfl (And.intro rfl (And.intro rfl (And.intro rfl (And.intro rfl (And.intro rfl (trivial)))))))) (permI [0, 0, 2] rfl) (fun _ h => nomatch h) (fun _ h => h)
   ·simp only [decide_eq_false_iff_not] at h83
    have hk9 : k = vis.length := by omega
    have hs9 : s = buildG F (buildR F pts a b c (((a : Int), (b : Int), (c : Int)) :: rest)) vis := by rw [hs, hk9, List.take_length]; rfl
    subst hs9
    refine CJ_exit ?_
    refine QJ_then_exit ?_
    refine QJ_then_exit ?_
    refine QJ_in_exit ?_
    refine QJ_then ?_
    refine CJ_seq ?_
    refine CJ_reg ?_
    refine LJ_y rfl rfl (YJ_loadFactP (A := some ⟨b2, 0, none⟩) (j := 0) rfl rfl tyi_28 m1 rfl) ?_
    refine LJ_y rfl rfl (YJ_assign rfl) ?_
    refine LJ_nil ?_
    refine QJ_then ?_
    refine CJ_ret ?_
    skip
    exact QJ_fin (.inl rfl) (μ' := [_]) (μr := _) (φ' := []) (res_tmp rfl rfl) (permI [1] rfl) (fun _ h => nomatch h) ⟨(Bm, vis), hperm, rfl, rfl, rfl⟩
  ·show LJ _ _ _ _ _ (_ :: _ :: _ :: _ :: _) _
   have hem := left_mem he72
   rw [hse] at hem
   have hvn2 : (vis.map (·.2.2) ++ [e72.2.2]).Nodup := by
    rw [List.nodup_append]
    refine ⟨hvn, by simp, ?_⟩
    intro x hx y hy
    rw [List.mem_singleton] at hy
    subst hy
    intro q
    subst q
    exact hem.2 hx
   refine LJ_y rfl rfl (YJ_extract rfl rfl) ?_
   refine LJ_nil ?_
   refine QJ_then ?_
   refine CJ_seq ?_
   refine CJ_condT rfl ?_
   refine CJ_skip ?_
   refine QJ_then ?_
   refine CJ_block ?_
   refine CJ_seq ?_
   refine CJ_reg ?_
   refine LJ_y rfl rfl (YJ_entry (f := fK) (g := fK) rfl m0 (MapAt_own (l := (buildR F pts a b c (((a : Int), (b : Int), (c : Int)) :: rest)).L) (c := (buildR F pts a b c (((a : Int), (b : Int), (c : Int)) :: rest)).c) m2) hem.1 hb.nod) ?_
   refine LJ_y rfl rfl (YJ_extract rfl rfl) ?_
   refine LJ_alloc (cs := #[_, _]) rfl rfl zer_46 rfl ?_
   intro b9
   refine LJ_store (cs' := #[_, _]) (μ' := [_, _, _, _, _]) 0 rfl rfl rfl rfl tyi_46 rfl (Nat.le_of_ble_eq_true rfl) rfl rfl rfl ?_
   refine LJ_nil ?_
   refine QJ_then ?_
   refine CJ_reg ?_
   refine LJ_y rfl rfl (YJ_move rfl) ?_
   refine LJ_y rfl rfl (YJ_loadN (vs := [_, _]) rfl tyi_46 m0 rfl rfl) ?_
   refine LJ_buildSliceN (vs := [_]) (cs := [_, _]) rfl rfl elt_149 zer_46 (by decide) (by decide) rfl rfl rfl rfl rfl ?_
   intro b10
   refine LJ_append 3 rfl rfl elt_149 zer_46 rfl rfl rfl rfl (Rd_own m0) rfl rfl (by omega) (by omega) (by decide) (k_app vis e72) ?_
   intro A79 c79
   show LJ _ _ _ _ _ (_ :: _ :: _ :: _ :: _ :: _ :: _) _
   refine LJ_y rfl rfl (YJ_assign rfl) ?_
   refine LJ_nil ?_
   refine QJ_in_normal ?_
   refine QJ_roundF (F := fun (i : MapO × List Nat × Nat × Option Addr × Nat) => ⟨[(1, .slice TA (((a : Int), (b : Int), (c : Int)) :: rest).length cT), (7, .pointer (some ⟨b2, 0, none⟩)), (10, .pointer (some ⟨b4, 0, none⟩)), (11, .func (.func 86) #[] #[.pointer (some ⟨b4, 0, none⟩), .pointer (some ⟨b2, 0, none⟩), .pointer (some ⟨b1, 0, none⟩)]), (14, .slice i.2.2.2.1 i.2.2.1 i.2.2.2.2), (71, .pointer (some ⟨it, 0, none⟩))], [itR it om (buildR F pts a b c (((a : Int), (b : Int), (c : Int)) :: rest)).c i.2.1 (buildR F pts a b c (((a : Int), (b : Int), (c : Int)) :: rest)).c, rowR 46 2 i.2.2.2.1 i.2.2.1 i.2.2.2.2 (kCells i.1)], []⟩) (I := fun (i : MapO × List Nat × Nat × Option Addr × Nat) => i.2.1 = i.1.map (·.2.2) ∧ i.2.2.1 = i.1.length ∧ (i.1.map (·.2.2)).Nodup ∧ (∀ e, e ∈ i.1 → e ∈ (buildR F pts a b c (((a : Int), (b : Int), (c : Int)) :: rest)).L) ∧ (leftL (buildR F pts a b c (((a : Int), (b : Int), (c : Int)) :: rest)).L i.2.1).length + i.1.length ≤ (buildR F pts a b c (((a : Int), (b : Int), (c : Int)) :: rest)).L.length) (m := fun (i : MapO × List Nat × Nat × Option Addr × Nat) => (leftL (buildR F pts a b c (((a : Int), (b : Int), (c : Int)) :: rest)).L i.2.1).length) (i := (vis, seen, nv, A0, c0)) ((vis ++ [e72], seen ++ [e72.2.2], nv + 1, A79, c79)) (μd := [_, _]) ⟨by dsimp only; rw [hse]; simp, by dsimp only; rw [hnv]; simp, by simpa using hvn2, fun e h => (List.mem_append.1 h).elim (hvs e) (fun q => by rw [List.mem_singleton] at q; subst q; exact hem.1), by have := left_lt he72; dsimp only; simp only [List.length_append, List.length_cons, List.length_nil]; omega⟩ (by dsimp only; exact left_lt he72) (And.intro rfl (And.intro rfl (And.intro rfl (And.intro rfl (And.intro rfl (And.intro rfl (trivial))))))) (permI [2, 2, 2, 2] rfl) (fun _ h => nomatch h) (fun _ h => h)
end Go.Proofs.Ytbanlhlggkdanaa
namespace Go.Proofs.Ytbanlhlggkdanaa
open Go.RowKit
theorem ent_57 : Enter Try.prog 57 = true := by kernel_rfl
theorem ent_24 : Enter Try.prog 24 = true := by kernel_rfl
theorem YJ_andU {E : Env} {ty : TypeId} {σ : List (Nat × Value)} {μ φ : List Res} {xt yt : TypeId} {x y : Operand} {a : Int} (hx : oev σ x = some (.int .u32 a)) (hy : oev σ y = some (.int .u32 1)) (h0 : 0 ≤ a) :
  YJ E (.binOp .and xt x y yt) ty σ μ φ (.int .u32 (a % 2)) := fun ac w _ _ _ _ hs _ _ => by
 simp only [execOp, hs.ev hx, hs.ev hy, eqGuard_and, binOp_and]
 have : (Op.intBits .and .u32 a 1) = pure (.int .u32 (a % 2)) := by
  unfold Op.intBits
  show (pure (Value.int .u32 (IntKind.u32.wrap ((BitVec.ofInt 32 a &&& BitVec.ofInt 32 1 : BitVec 32).toNat : Int))) : Sem Value) = _
  have e : (BitVec.ofInt 32 a &&& BitVec.ofInt 32 1 : BitVec 32).toNat = (a % 2).toNat := by
   rw [BitVec.toNat_and]
   have h2 : (BitVec.ofInt 32 1 : BitVec 32).toNat = 2 ^ 1 - 1 := by decide
   rw [h2, Nat.and_two_pow_sub_one_eq_mod, BitVec.toNat_ofInt]
   omega
  rw [e]
  have e2 : IntKind.u32.wrap (((a % 2).toNat : Nat) : Int) = a % 2 := by
   rw [Int.toNat_of_nonneg (by omega)]
   rcases (by omega : a % 2 = 0 ∨ a % 2 = 1) with h | h <;> rw [h] <;> decide
  rw [e2]
 rw [this]
 rfl
theorem CJ_freezeK {E : Env} {Q : Exit → Act → World → Prop} {σ : List (Nat × Value)} {μ φ : List Res} {cd : Code} {r : Res} (k : Nat) (hk : μ[k]? = some r) (h : CJ E Q cd σ (μ.eraseIdx k) (r :: φ)) : CJ E Q cd σ μ φ :=
 fun a w ha hm => h a w ha (hm.weak (μr := []) (by simpa using perm_at hk) (fun _ h => h)).freeze
def gW (w : Int) : Nat := (1 + w % 2).toNat
theorem gW_or (w : Int) : gW w = 1 ∨ gW w = 2 := by unfold gW; omega
def bitN (v : Int) (k : Nat) : Bool := decide (v / 2 ^ min k 32 % 2 = 1)
def atI (W : Nat) (x y : Int) : Int := y * ((W : Int) + 1) + x
def ptsG (W y x : Nat) : List (Int × Int) := (List.range y).flatMap (fun b => (List.range (W + 1)).map fun (a : Nat) => (2 * (a : Int), 2 * ((b : Nat) : Int))) ++ (List.range x).map fun (a : Nat) => (2 * (a : Int), 2 * (y : Int))
def tri2 (W : Nat) (f : Nat → Bool) (y x : Nat) : List (Int × Int × Int) :=
 bif f (W * y + x) then [(atI W x y, atI W ((x : Int) + 1) y, atI W ((x : Int) + 1) ((y : Int) + 1)), (atI W ((x : Int) + 1) ((y : Int) + 1), atI W x ((y : Int) + 1), atI W x y)]
 else [(atI W ((x : Int) + 1) y, atI W x ((y : Int) + 1), atI W x y), (atI W x ((y : Int) + 1), atI W ((x : Int) + 1) y, atI W ((x : Int) + 1) ((y : Int) + 1))]
def trisG (W : Nat) (f : Nat → Bool) (y x : Nat) : List (Int × Int × Int) := (List.range y).flatMap (fun b => (List.range W).flatMap (tri2 W f b)) ++ (List.range x).flatMap (tri2 W f y)
theorem ptsG_x {W y x : Nat} : ptsG W y (x + 1) = ptsG W y x ++ [(2 * (x : Int), 2 * (y : Int))] := by unfold ptsG; simp [List.range_succ]
theorem ptsG_y {W y : Nat} : ptsG W (y + 1) 0 = ptsG W y (W + 1) := by unfold ptsG; simp [List.range_succ]
theorem trisG_x {W y x : Nat} {f : Nat → Bool} : trisG W f y (x + 1) = trisG W f y x ++ tri2 W f y x := by unfold trisG; simp [List.range_succ]
theorem trisG_y {W y : Nat} {f : Nat → Bool} : trisG W f (y + 1) 0 = trisG W f y W := by unfold trisG; simp [List.range_succ]
theorem tri2_len {W y x : Nat} {f : Nat → Bool} : (tri2 W f y x).length = 2 := by unfold tri2; cases f (W * y + x) <;> rfl
theorem t3_T {W y x : Nat} {f : Nat → Bool} (h : f (W * y + x) = true) : t3Cells (trisG W f y x) ++ [.int .i64 (atI W x y), .int .i64 (atI W ((x : Int) + 1) y), .int .i64 (atI W ((x : Int) + 1) ((y : Int) + 1)), .int .i64 (atI W ((x : Int) + 1) ((y : Int) + 1)), .int .i64 (atI W x ((y : Int) + 1)), .int .i64 (atI W x y)] = t3Cells (trisG W f y (x + 1)) := by
 rw [trisG_x]; simp [t3Cells, tri2, h]
theorem t3_F {W y x : Nat} {f : Nat → Bool} (h : f (W * y + x) = false) : t3Cells (trisG W f y x) ++ [.int .i64 (atI W ((x : Int) + 1) y), .int .i64 (atI W x ((y : Int) + 1)), .int .i64 (atI W x y), .int .i64 (atI W x ((y : Int) + 1)), .int .i64 (atI W ((x : Int) + 1) y), .int .i64 (atI W ((x : Int) + 1) ((y : Int) + 1))] = t3Cells (trisG W f y (x + 1)) := by
 rw [trisG_x]; simp [t3Cells, tri2, h]
def gPts (W H : Nat) : List (Int × Int) := ptsG W (H + 1) 0
def gTris (W H : Nat) (f : Nat → Bool) : List (Int × Int × Int) := trisG W f H 0
def bit4 (b0 b1 b2 b3 : Bool) : Nat → Bool
 | 0 => b0
 | 1 => b1
 | 2 => b2
 | _ => b3
theorem gTris_nf {W H : Nat} {f : Nat → Bool} (hW : W = 1 ∨ W = 2) (hH : H = 1 ∨ H = 2) : gTris W H f = gTris W H (bit4 (f 0) (f 1) (f 2) (f 3)) := by
 rcases hW with rfl | rfl <;> rcases hH with rfl | rfl <;> rfl
def gHead (W H : Nat) (f : Nat → Bool) : Int × Int × Int := (gTris W H f).headD (0, 0, 0)
def gOkB (W H : Nat) (f : Nat → Bool) : Bool := (gTris W H f).length != 0 && decide ((gTris W H f).length ≤ 8) && (gTris W H f).all (fun x => decide (0 ≤ x.1 ∧ x.1 < (gPts W H).length ∧ 0 ≤ x.2.1 ∧ x.2.1 < (gPts W H).length ∧ 0 ≤ x.2.2 ∧ x.2.2 < (gPts W H).length)) && decide (0 < pA (gPts W H) (gHead W H f).1.toNat (gHead W H f).2.1.toNat (gHead W H f).2.2.toNat)
theorem gOkB_all : ∀ (b0 b1 b2 b3 : Bool), gOkB 1 1 (bit4 b0 b1 b2 b3) = true ∧ gOkB 1 2 (bit4 b0 b1 b2 b3) = true ∧ gOkB 2 1 (bit4 b0 b1 b2 b3) = true ∧ gOkB 2 2 (bit4 b0 b1 b2 b3) = true := by decide +kernel
theorem gOkB_true {W H : Nat} {f : Nat → Bool} (hW : W = 1 ∨ W = 2) (hH : H = 1 ∨ H = 2) : gOkB W H f = true := by
 unfold gOkB gHead
 rw [gTris_nf hW hH]
 have := gOkB_all (f 0) (f 1) (f 2) (f 3)
 rcases hW with rfl | rfl <;> rcases hH with rfl | rfl
 ·exact this.1
 ·exact this.2.1
 ·exact this.2.2.1
 ·exact this.2.2.2
theorem gPts_ok {W H : Nat} (hW : W = 1 ∨ W = 2) (hH : H = 1 ∨ H = 2) : (gPts W H).length ≤ 9 ∧ ∀ p, p ∈ gPts W H → 0 ≤ p.1 ∧ p.1 ≤ 4 ∧ 0 ≤ p.2 ∧ p.2 ≤ 4 := by
 rcases hW with rfl | rfl <;> rcases hH with rfl | rfl <;> decide
theorem g_shape {W H : Nat} (hW : W = 1 ∨ W = 2) (hH : H = 1 ∨ H = 2) (f : Nat → Bool) : ∃ (a b c : Nat) (rest : List (Int × Int × Int)), gTris W H f = ((a : Int), (b : Int), (c : Int)) :: rest ∧ rest.length ≤ 8 ∧ (∀ x, x ∈ gTris W H f → x.1 < (gPts W H).length ∧ x.2.1 < (gPts W H).length ∧ x.2.2 < (gPts W H).length) ∧ a < (gPts W H).length ∧ b < (gPts W H).length ∧ c < (gPts W H).length ∧ 0 < pA (gPts W H) a b c := by
 have h := gOkB_true (f := f) hW hH
 unfold gOkB gHead at h
 rcases hT : gTris W H f with _ | ⟨⟨a, b, c⟩, rest⟩
 ·rw [hT] at h; simp at h
 ·rw [hT] at h
  simp only [Bool.and_eq_true, decide_eq_true_eq, List.headD_cons] at h
  obtain ⟨⟨⟨_, h1⟩, h2⟩, h3⟩ := h
  rw [List.all_eq_true] at h2
  have h4 : ∀ x, x ∈ (a, b, c) :: rest → (0 ≤ x.1 ∧ x.1 < (gPts W H).length ∧ 0 ≤ x.2.1 ∧ x.2.1 < (gPts W H).length ∧ 0 ≤ x.2.2 ∧ x.2.2 < (gPts W H).length) := fun x hx => of_decide_eq_true (h2 x hx)
  obtain ⟨q1, q2, q3, q4, q5, q6⟩ := h4 _ (.head _)
  dsimp only at q1 q2 q3 q4 q5 q6 h3
  refine ⟨a.toNat, b.toNat, c.toNat, rest, by rw [Int.toNat_of_nonneg q1, Int.toNat_of_nonneg q3, Int.toNat_of_nonneg q5], ?_, ?_, by omega, by omega, by omega, of_decide_eq_true h3⟩
  ·rw [List.length_cons] at h1; omega
  ·intro x hx
   have := h4 x hx
   exact ⟨this.2.1, this.2.2.2.1, this.2.2.2.2.2⟩
def gridR (F : MapI) (W H : Nat) (f : Nat → Bool) : BS := buildR F (gPts W H) (gHead W H f).1 (gHead W H f).2.1 (gHead W H f).2.2 (gTris W H f)
set_option maxRecDepth 100000 in
set_option maxHeartbeats 1000000 in
theorem at_c {b W : Nat} {x y : Int} (hW : W = 1 ∨ W = 2) (hx : 0 ≤ x ∧ x ≤ 5) (hy : 0 ≤ y ∧ y ≤ 5) : Tri Try.prog 57 [.int .i64 x, .int .i64 y, .pointer (some ⟨b, 0, none⟩)] [] [sliceR 1 (some ⟨b, 0, none⟩) 1 [.int .i64 (W : Int)]] (Ret0 (.int .i64 (atI W x y))) := by
 refine Tri_of (N := 12) Try.func57 rfl ent_57 rfl rfl ?_
 intro w0 S0 T0
 show CJ _ _ _ [(0, _), (1, _), (2, _)] _ _
 have hm9 : 0 ≤ y * ((W : Int) + 1) ∧ y * ((W : Int) + 1) ≤ 15 := by rcases hW with rfl | rfl <;> (constructor <;> omega)
 refine CJ_seq ?_
 refine CJ_reg ?_
 refine LJ_y rfl rfl (YJ_assign rfl) ?_
 refine LJ_nil ?_
 refine QJ_then ?_
 refine CJ_seq ?_
 refine CJ_reg ?_
 refine LJ_y rfl rfl (YJ_move rfl) ?_
 refine LJ_y rfl rfl (YJ_loadFactP (A := some ⟨b, 0, none⟩) (j := 0) rfl rfl tyi_3 m0 rfl) ?_
 refine LJ_y rfl rfl (YJ_bin rfl rfl (iop_add (by rcases hW with rfl | rfl <;> omega))) ?_
 refine LJ_y rfl rfl (YJ_bin rfl rfl (iop_mul (by omega))) ?_
 refine LJ_y rfl rfl (YJ_move rfl) ?_
 refine LJ_y rfl rfl (YJ_bin rfl rfl (iop_add (by omega))) ?_
 refine LJ_y rfl rfl (YJ_assign rfl) ?_
 refine LJ_nil ?_
 refine QJ_then ?_
 refine CJ_ret ?_
 refine QJ_fin (.inl rfl) (μ' := []) (μr := _) (φ' := []) (res_tmp rfl rfl) (List.Perm.refl _) (fun _ h => nomatch h) ?_
 exact ⟨rfl, rfl, rfl⟩
set_option maxRecDepth 100000 in
set_option maxHeartbeats 16000000 in
theorem grid_c {w h v fa : Int} (hv : 0 ≤ v ∧ v < 4294967296) (hf : 0 ≤ fa ∧ fa < 4294967296) : Tri Try.prog 24 [.int .i64 w, .int .i64 h, .int .u32 v, .int .u32 fa] [] [] (RetX (fun (x : Nat × MapI × MapO × Option Addr × Nat) => (fa = 0 → x.2.1 = []) ∧ x.2.2.1.Perm (gridR x.2.1 (gW w) (gW h) (bitN v)).L) (fun x => .tuple #[.pointer (some ⟨x.1, 0, none⟩), .slice x.2.2.2.1 (gTris (gW w) (gW h) (bitN v)).length x.2.2.2.2]) (fun x => [meshR x.1 (buildG x.2.1 (gridR x.2.1 (gW w) (gW h) (bitN v)) x.2.2.1).M]) (fun x => [sliceR 3 x.2.2.2.1 (gTris (gW w) (gW h) (bitN v)).length (t3Cells (gTris (gW w) (gW h) (bitN v)))])) := by
 refine Tri_of (N := 158) Try.func24 rfl ent_24 rfl rfl ?_
 intro w0 S0 T0
 show CJ _ _ _ [(0, _), (1, _), (2, _), (3, _)] _ _
 have hW := gW_or w
 have hH := gW_or h
 have hwW : 1 + w % ((2 ^ 1 : Nat) : Int) = ((gW w : Nat) : Int) := by unfold gW; omega
 have hhH : 1 + h % ((2 ^ 1 : Nat) : Int) = ((gW h : Nat) : Int) := by unfold gW; omega
 generalize gW w = W at *
 generalize gW h = H at *
 refine CJ_seq ?_
 refine CJ_reg ?_
 refine LJ_box (cs := #[_]) rfl rfl rfl rfl ?_
 intro b1
 refine LJ_y rfl rfl (YJ_assign rfl) ?_
 refine LJ_y rfl rfl (YJ_assign rfl) ?_
 refine LJ_nil ?_
 refine QJ_then ?_
 refine CJ_seq ?_
 refine CJ_reg ?_
 refine LJ_y rfl rfl (YJ_loadL rfl tyi_3 m0 rfl) ?_
 refine LJ_y rfl rfl (YJ_andM 1 rfl rfl (by decide) (by decide)) ?_
 refine LJ_y rfl rfl (YJ_bin rfl rfl (iop_add (by omega))) ?_
 refine LJ_val (v := .int .i64 (W : Int)) (congrArg (Value.int .i64) hwW) ?_
 refine LJ_y rfl rfl (YJ_move rfl) ?_
 refine LJ_y rfl rfl (YJ_andM 1 rfl rfl (by decide) (by decide)) ?_
 refine LJ_y rfl rfl (YJ_bin rfl rfl (iop_add (by omega))) ?_
 refine LJ_val (v := .int .i64 (H : Int)) (congrArg (Value.int .i64) hhH) ?_
 refine LJ_store (cs' := #[_]) (μ' := [_]) 0 rfl rfl rfl rfl tyi_3 rfl (Nat.le_of_ble_eq_true rfl) rfl rfl rfl ?_
 refine LJ_y rfl rfl (YJ_assign rfl) ?_
 refine LJ_nil ?_
 refine QJ_then ?_
 refine CJ_seq ?_
 refine CJ_freezeCells (size := 1) (n := 1) (xs := [.int .i64 (W : Int)]) 0 rfl rfl rfl ?_
 show CJ _ _ _ _ (_) _
 refine CJ_reg ?_
 refine LJ_y rfl rfl (YJ_assign rfl) ?_
 refine LJ_nil ?_
 refine QJ_then ?_
 refine CJ_seq ?_
 refine CJ_seq ?_
 refine CJ_newRow 23 2 ?_
 refine CJ_reg ?_
 refine LJ_y rfl rfl (YJ_move rfl) ?_
 refine LJ_y rfl rfl (YJ_bin rfl rfl (iop_add (by omega))) ?_
 refine LJ_y rfl rfl (YJ_move rfl) ?_
 refine LJ_nil ?_
 refine QJ_then ?_
 refine CJ_block ?_
 refine CJ_loopF (F := fun (i : Nat × Nat × Option Addr × Nat) => ⟨[(1, .int .i64 (H : Int)), (2, .int .u32 v), (3, .int .u32 fa), (4, .pointer (some ⟨b1, 0, none⟩)), (10, .slice i.2.2.1 i.2.1 i.2.2.2), (34, .int .i64 ((H : Int) + 1)), (35, .int .i64 (i.1 : Nat))], [rowR 23 2 i.2.2.1 i.2.1 i.2.2.2 (ptCells (ptsG W i.1 0))], []⟩) (I := fun (i : Nat × Nat × Option Addr × Nat) => i.1 ≤ H + 1 ∧ i.2.1 = (ptsG W i.1 0).length ∧ i.2.1 ≤ 3 * i.1) (m := fun (i : Nat × Nat × Option Addr × Nat) => H + 1 - i.1) (0, 0, none, 0) (μr := []) ⟨Nat.zero_le _, rfl, Nat.le_refl _⟩ (And.intro rfl (And.intro rfl (And.intro rfl (And.intro rfl (And.intro rfl (And.intro rfl (And.intro rfl (trivial)))))))) (permI [] rfl) (fun _ h => nomatch h) ?_
 rintro ⟨y, n, A0, c0⟩ ⟨hy, hn, hnb⟩
 try dsimp only at hy
 try dsimp only at hn
 try dsimp only at hnb
 show CJ _ _ _ [(1, .int .i64 (H : Int)), (2, .int .u32 v), (3, .int .u32 fa), (4, .pointer (some ⟨b1, 0, none⟩)), (10, .slice A0 n c0), (34, .int .i64 ((H : Int) + 1)), (35, .int .i64 (y : Nat))] (rowR 23 2 A0 n c0 (ptCells (ptsG W y 0)) :: _) _
 refine CJ_seq ?_
 refine CJ_reg ?_
 refine LJ_y rfl rfl (YJ_bin rfl rfl rfl) ?_
 refine LJ_nil ?_
 refine QJ_then ?_
 refine CJ_seq ?_
 refine CJ_cond rfl (fun h36 => ?_) (fun h36 => ?_)
 ·simp only [decide_eq_true_eq] at h36
  refine CJ_skip ?_
  refine QJ_then ?_
  refine CJ_seq ?_
  refine CJ_block ?_
  refine CJ_seq ?_
  refine CJ_reg ?_
  refine LJ_y rfl rfl (YJ_move rfl) ?_
  refine LJ_y rfl rfl (YJ_assign rfl) ?_
  refine LJ_nil ?_
  refine QJ_then ?_
  refine CJ_seq ?_
  refine CJ_reg ?_
  refine LJ_y rfl rfl (YJ_loadFactP (A := some ⟨b1, 0, none⟩) (j := 0) rfl rfl tyi_3 m0 rfl) ?_
  refine LJ_y rfl rfl (YJ_bin rfl rfl (iop_add (by omega))) ?_
  refine LJ_y rfl rfl (YJ_move rfl) ?_
  refine LJ_nil ?_
  refine QJ_then ?_
  refine CJ_block ?_
  refine CJ_loopF (F := fun (i : Nat × Nat × Option Addr × Nat) => ⟨[(1, .int .i64 (H : Int)), (2, .int .u32 v), (3, .int .u32 fa), (4, .pointer (some ⟨b1, 0, none⟩)), (10, .slice i.2.2.1 i.2.1 i.2.2.2), (34, .int .i64 ((H : Int) + 1)), (35, .int .i64 (y : Nat)), (11, .int .i64 (y : Nat)), (39, .int .i64 ((W : Int) + 1)), (40, .int .i64 (i.1 : Nat))], [rowR 23 2 i.2.2.1 i.2.1 i.2.2.2 (ptCells (ptsG W y i.1))], []⟩) (I := fun (i : Nat × Nat × Option Addr × Nat) => i.1 ≤ W + 1 ∧ i.2.1 = (ptsG W y i.1).length ∧ i.2.1 ≤ 3 * y + i.1) (m := fun (i : Nat × Nat × Option Addr × Nat) => W + 1 - i.1) (0, n, A0, c0) (μr := []) ⟨Nat.zero_le _, hn, hnb⟩ (And.intro rfl (And.intro rfl (And.intro rfl (And.intro rfl (And.intro rfl (And.intro rfl (And.intro rfl (And.intro rfl (And.intro rfl (And.intro rfl (trivial))))))))))) (permI [] rfl) (fun _ h => nomatch h) ?_
  rintro ⟨x, n1, A1, c1⟩ ⟨hx, hn1, hnb1⟩
  try dsimp only at hx
  try dsimp only at hn1
  try dsimp only at hnb1
  show CJ _ _ _ [(1, .int .i64 (H : Int)), (2, .int .u32 v), (3, .int .u32 fa), (4, .pointer (some ⟨b1, 0, none⟩)), (10, .slice A1 n1 c1), (34, .int .i64 ((H : Int) + 1)), (35, .int .i64 (y : Nat)), (11, .int .i64 (y : Nat)), (39, .int .i64 ((W : Int) + 1)), (40, .int .i64 (x : Nat))] (rowR 23 2 A1 n1 c1 (ptCells (ptsG W y x)) :: _) _
  refine CJ_seq ?_
  refine CJ_reg ?_
  refine LJ_y rfl rfl (YJ_bin rfl rfl rfl) ?_
  refine LJ_nil ?_
  refine QJ_then ?_
  refine CJ_seq ?_
  refine CJ_cond rfl (fun h41 => ?_) (fun h41 => ?_)
  ·simp only [decide_eq_true_eq] at h41
   refine CJ_skip ?_
   refine QJ_then ?_
   refine CJ_seq ?_
   refine CJ_block ?_
   refine CJ_seq ?_
   refine CJ_reg ?_
   refine LJ_y rfl rfl (YJ_move rfl) ?_
   refine LJ_y rfl rfl (YJ_assign rfl) ?_
   refine LJ_nil ?_
   refine QJ_then ?_
   refine CJ_reg ?_
   refine LJ_y rfl rfl (YJ_move rfl) ?_
   refine LJ_y rfl rfl (YJ_move rfl) ?_
   refine LJ_y rfl rfl (YJ_bin rfl rfl (iop_mul (by omega))) ?_
   refine LJ_y rfl rfl (YJ_move rfl) ?_
   refine LJ_y rfl rfl (YJ_bin rfl rfl (iop_mul (by omega))) ?_
   refine LJ_y rfl rfl (YJ_build1 (cs := [_, _]) lay_23 rfl rfl rfl) ?_
   refine LJ_buildSliceN (vs := [_]) (cs := [_, _]) rfl rfl elt_26 zer_23 (by decide) (by decide) rfl rfl rfl rfl rfl ?_
   intro b2
   refine LJ_append 1 rfl rfl elt_26 zer_23 rfl rfl rfl rfl (Rd_own m0) rfl rfl (by omega) (by omega) (by decide) ((ptCells_app _ (2 * (x : Int), 2 * (y : Int))).trans (congrArg ptCells ptsG_x.symm)) ?_
   intro A9 c9
   show LJ _ _ _ _ _ (_ :: _ :: _) _
   refine LJ_y rfl rfl (YJ_assign rfl) ?_
   refine LJ_nil ?_
   refine QJ_in_normal ?_
   refine QJ_then ?_
   refine CJ_reg ?_
   refine LJ_y rfl rfl (YJ_bin rfl rfl (iop_add (by omega))) ?_
   refine LJ_y rfl rfl (YJ_move rfl) ?_
   refine LJ_nil ?_
   refine QJ_roundF (F := fun (i : Nat × Nat × Option Addr × Nat) => ⟨[(1, .int .i64 (H : Int)), (2, .int .u32 v), (3, .int .u32 fa), (4, .pointer (some ⟨b1, 0, none⟩)), (10, .slice i.2.2.1 i.2.1 i.2.2.2), (34, .int .i64 ((H : Int) + 1)), (35, .int .i64 (y : Nat)), (11, .int .i64 (y : Nat)), (39, .int .i64 ((W : Int) + 1)), (40, .int .i64 (i.1 : Nat))], [rowR 23 2 i.2.2.1 i.2.1 i.2.2.2 (ptCells (ptsG W y i.1))], []⟩) (I := fun (i : Nat × Nat × Option Addr × Nat) => i.1 ≤ W + 1 ∧ i.2.1 = (ptsG W y i.1).length ∧ i.2.1 ≤ 3 * y + i.1) (m := fun (i : Nat × Nat × Option Addr × Nat) => W + 1 - i.1) (i := (x, n1, A1, c1)) ((x + 1, n1 + 1, A9, c9)) (μd := [_]) ⟨by omega, by dsimp only; rw [ptsG_x, List.length_append, ← hn1]; rfl, by dsimp only; omega⟩ (by dsimp only; omega) (And.intro rfl (And.intro rfl (And.intro rfl (And.intro rfl (And.intro rfl (And.intro rfl (And.intro rfl (And.intro rfl (And.intro rfl (And.intro rfl (trivial))))))))))) (permI [1] rfl) (fun _ h => nomatch h) (fun _ h => h)
  ·simp only [decide_eq_false_iff_not] at h41
   have hx9 : W + 1 = x := by omega
   subst hx9
   rw [← ptsG_y] at hn1 ⊢
   have hW3 : W ≤ 2 := by omega
   refine CJ_exit ?_
   refine QJ_then_exit ?_
   refine QJ_then_exit ?_
   refine QJ_in_exit ?_
   refine QJ_in_normal ?_
   refine QJ_then ?_
   refine CJ_reg ?_
   refine LJ_y rfl rfl (YJ_bin rfl rfl (iop_add (by omega))) ?_
   refine LJ_y rfl rfl (YJ_move rfl) ?_
   refine LJ_nil ?_
   refine QJ_roundF (F := fun (i : Nat × Nat × Option Addr × Nat) => ⟨[(1, .int .i64 (H : Int)), (2, .int .u32 v), (3, .int .u32 fa), (4, .pointer (some ⟨b1, 0, none⟩)), (10, .slice i.2.2.1 i.2.1 i.2.2.2), (34, .int .i64 ((H : Int) + 1)), (35, .int .i64 (i.1 : Nat))], [rowR 23 2 i.2.2.1 i.2.1 i.2.2.2 (ptCells (ptsG W i.1 0))], []⟩) (I := fun (i : Nat × Nat × Option Addr × Nat) => i.1 ≤ H + 1 ∧ i.2.1 = (ptsG W i.1 0).length ∧ i.2.1 ≤ 3 * i.1) (m := fun (i : Nat × Nat × Option Addr × Nat) => H + 1 - i.1) (i := (y, n, A0, c0)) ((y + 1, n1, A1, c1)) (μd := []) ⟨by omega, hn1, by dsimp only; omega⟩ (by dsimp only; omega) (And.intro rfl (And.intro rfl (And.intro rfl (And.intro rfl (And.intro rfl (And.intro rfl (And.intro rfl (trivial)))))))) (permI [] rfl) (fun _ h => nomatch h) (fun _ h => h)
 ·simp only [decide_eq_false_iff_not] at h36
  have hy9 : H + 1 = y := by omega
  subst hy9
  subst hn
  refine CJ_exit ?_
  refine QJ_then_exit ?_
  refine QJ_then_exit ?_
  refine QJ_in_exit ?_
  refine QJ_then ?_
  refine CJ_seq ?_
  refine CJ_freezeRowK (n' := (gPts W H).length) (xs' := ptCells (gPts W H)) 0 rfl rfl rfl ?_
  show CJ _ _ _ _ (_) _
  refine CJ_reg ?_
  refine LJ_y rfl rfl (YJ_assign rfl) ?_
  refine LJ_nil ?_
  refine QJ_then ?_
  refine CJ_seq ?_
  refine CJ_newRow 34 3 ?_
  refine CJ_reg ?_
  refine LJ_y rfl rfl (YJ_makeFunc (vs := []) (us := [_]) rfl rfl) ?_
  refine LJ_y rfl rfl (YJ_assign rfl) ?_
  refine LJ_nil ?_
  refine QJ_then ?_
  refine CJ_seq ?_
  refine CJ_reg ?_
  refine LJ_y rfl rfl (YJ_assign rfl) ?_
  refine LJ_nil ?_
  refine QJ_then ?_
  refine CJ_seq ?_
  refine CJ_seq ?_
  refine CJ_reg ?_
  refine LJ_y rfl rfl (YJ_move rfl) ?_
  refine LJ_y rfl rfl (YJ_move rfl) ?_
  refine LJ_nil ?_
  refine QJ_then ?_
  refine CJ_block ?_
  refine CJ_loopF (F := fun (i : Nat × Nat × Option Addr × Nat) => ⟨[(1, .int .i64 (H : Int)), (2, .int .u32 v), (3, .int .u32 fa), (4, .pointer (some ⟨b1, 0, none⟩)), (10, .slice A0 (gPts W H).length c0), (14, .func (.func 57) #[] #[.pointer (some ⟨b1, 0, none⟩)]), (13, .slice i.2.2.1 i.2.1 i.2.2.2), (15, .int .i64 ((W * i.1 : Nat) : Int)), (54, .int .i64 (H : Int)), (55, .int .i64 (i.1 : Nat))], [rowR 34 3 i.2.2.1 i.2.1 i.2.2.2 (t3Cells (trisG W (bitN v) i.1 0))], []⟩) (I := fun (i : Nat × Nat × Option Addr × Nat) => i.1 ≤ H ∧ i.2.1 = (trisG W (bitN v) i.1 0).length ∧ i.2.1 ≤ 4 * i.1) (m := fun (i : Nat × Nat × Option Addr × Nat) => H - i.1) (0, 0, none, 0) (μr := []) ⟨Nat.zero_le _, rfl, Nat.le_refl _⟩ (And.intro rfl (And.intro rfl (And.intro rfl (And.intro rfl (And.intro rfl (And.intro rfl (And.intro rfl (And.intro rfl (And.intro rfl (And.intro rfl (trivial))))))))))) (permI [] rfl) (fun _ h => nomatch h) ?_
  rintro ⟨y, n, TA, cT⟩ ⟨hy, hn, hnb⟩
  try dsimp only at hy
  try dsimp only at hn
  try dsimp only at hnb
  show CJ _ _ _ [(1, .int .i64 (H : Int)), (2, .int .u32 v), (3, .int .u32 fa), (4, .pointer (some ⟨b1, 0, none⟩)), (10, .slice A0 (gPts W H).length c0), (14, .func (.func 57) #[] #[.pointer (some ⟨b1, 0, none⟩)]), (13, .slice TA n cT), (15, .int .i64 ((W * y : Nat) : Int)), (54, .int .i64 (H : Int)), (55, .int .i64 (y : Nat))] (rowR 34 3 TA n cT (t3Cells (trisG W (bitN v) y 0)) :: _) _
  refine CJ_seq ?_
  refine CJ_reg ?_
  refine LJ_y rfl rfl (YJ_bin rfl rfl rfl) ?_
  refine LJ_nil ?_
  refine QJ_then ?_
  refine CJ_seq ?_
  refine CJ_cond rfl (fun h56 => ?_) (fun h56 => ?_)
  ·simp only [decide_eq_true_eq] at h56
   refine CJ_skip ?_
   refine QJ_then ?_
   refine CJ_seq ?_
   refine CJ_block ?_
   refine CJ_seq ?_
   refine CJ_reg ?_
   refine LJ_y rfl rfl (YJ_move rfl) ?_
   refine LJ_y rfl rfl (YJ_assign rfl) ?_
   refine LJ_nil ?_
   refine QJ_then ?_
   refine CJ_seq ?_
   refine CJ_reg ?_
   refine LJ_y rfl rfl (YJ_loadFactP (A := some ⟨b1, 0, none⟩) (j := 0) rfl rfl tyi_3 m1 rfl) ?_
   refine LJ_y rfl rfl (YJ_move rfl) ?_
   refine LJ_nil ?_
   refine QJ_then ?_
   refine CJ_block ?_
   refine CJ_loopF (F := fun (i : Nat × Nat × Option Addr × Nat) => ⟨[(1, .int .i64 (H : Int)), (2, .int .u32 v), (3, .int .u32 fa), (4, .pointer (some ⟨b1, 0, none⟩)), (10, .slice A0 (gPts W H).length c0), (14, .func (.func 57) #[] #[.pointer (some ⟨b1, 0, none⟩)]), (13, .slice i.2.2.1 i.2.1 i.2.2.2), (15, .int .i64 ((W * y + i.1 : Nat) : Int)), (54, .int .i64 (H : Int)), (55, .int .i64 (y : Nat)), (16, .int .i64 (y : Nat)), (58, .int .i64 (W : Int)), (59, .int .i64 (i.1 : Nat))], [rowR 34 3 i.2.2.1 i.2.1 i.2.2.2 (t3Cells (trisG W (bitN v) y i.1))], []⟩) (I := fun (i : Nat × Nat × Option Addr × Nat) => i.1 ≤ W ∧ i.2.1 = (trisG W (bitN v) y i.1).length ∧ i.2.1 ≤ 4 * y + 2 * i.1) (m := fun (i : Nat × Nat × Option Addr × Nat) => W - i.1) (0, n, TA, cT) (μr := []) ⟨Nat.zero_le _, hn, hnb⟩ (And.intro rfl (And.intro rfl (And.intro rfl (And.intro rfl (And.intro rfl (And.intro rfl (And.intro rfl (And.intro rfl (And.intro rfl (And.intro rfl (And.intro rfl (And.intro rfl (And.intro rfl (trivial)))))))))))))) (permI [] rfl) (fun _ h => nomatch h) ?_
   rintro ⟨x, n1, A1, c1⟩ ⟨hx, hn1, hnb1⟩
   try dsimp only at hx
   try dsimp only at hn1
   try dsimp only at hnb1
   show CJ _ _ _ [(1, .int .i64 (H : Int)), (2, .int .u32 v), (3, .int .u32 fa), (4, .pointer (some ⟨b1, 0, none⟩)), (10, .slice A0 (gPts W H).length c0), (14, .func (.func 57) #[] #[.pointer (some ⟨b1, 0, none⟩)]), (13, .slice A1 n1 c1), (15, .int .i64 ((W * y + x : Nat) : Int)), (54, .int .i64 (H : Int)), (55, .int .i64 (y : Nat)), (16, .int .i64 (y : Nat)), (58, .int .i64 (W : Int)), (59, .int .i64 (x : Nat))] (rowR 34 3 A1 n1 c1 (t3Cells (trisG W (bitN v) y x)) :: _) _
   have hyW : W * y ≤ 4 := by rcases hW with rfl | rfl <;> omega
   refine CJ_seq ?_
   refine CJ_reg ?_
   refine LJ_y rfl rfl (YJ_bin rfl rfl rfl) ?_
   refine LJ_nil ?_
   refine QJ_then ?_
   refine CJ_seq ?_
   refine CJ_cond rfl (fun h60 => ?_) (fun h60 => ?_)
   ·simp only [decide_eq_true_eq] at h60
    refine CJ_skip ?_
    refine QJ_then ?_
    refine CJ_seq ?_
    refine CJ_block ?_
    refine CJ_seq ?_
    refine CJ_reg ?_
    refine LJ_y rfl rfl (YJ_move rfl) ?_
    refine LJ_y rfl rfl (YJ_assign rfl) ?_
    refine LJ_nil ?_
    refine QJ_then ?_
    refine CJ_seq ?_
    refine CJ_reg ?_
    refine LJ_y rfl rfl (YJ_move rfl) ?_
    refine LJ_y rfl rfl (YJ_move rfl) ?_
    refine LJ_y rfl rfl (YJ_move rfl) ?_
    refine LJ_call0 rfl rfl rfl rfl rfl (at_c (W := W) (x := ((x : Nat) : Int)) (y := ((y : Nat) : Int)) hW (by omega) (by omega)) (AllIn.sub (And.intro m1 trivial)) ?_
    refine LJ_y rfl rfl (YJ_move rfl) ?_
    refine LJ_y rfl rfl (YJ_move rfl) ?_
    refine LJ_y rfl rfl (YJ_bin rfl rfl (iop_add (by omega))) ?_
    refine LJ_y rfl rfl (YJ_move rfl) ?_
    refine LJ_call0 rfl rfl rfl rfl rfl (at_c (W := W) (x := ((x : Nat) : Int) + 1) (y := ((y : Nat) : Int)) hW (by omega) (by omega)) (AllIn.sub (And.intro m1 trivial)) ?_
    refine LJ_y rfl rfl (YJ_move rfl) ?_
    refine LJ_y rfl rfl (YJ_move rfl) ?_
    refine LJ_y rfl rfl (YJ_bin rfl rfl (iop_add (by omega))) ?_
    refine LJ_y rfl rfl (YJ_move rfl) ?_
    refine LJ_y rfl rfl (YJ_bin rfl rfl (iop_add (by omega))) ?_
    refine LJ_call0 rfl rfl rfl rfl rfl (at_c (W := W) (x := ((x : Nat) : Int) + 1) (y := ((y : Nat) : Int) + 1) hW (by omega) (by omega)) (AllIn.sub (And.intro m1 trivial)) ?_
    refine LJ_y rfl rfl (YJ_move rfl) ?_
    refine LJ_y rfl rfl (YJ_move rfl) ?_
    refine LJ_y rfl rfl (YJ_move rfl) ?_
    refine LJ_y rfl rfl (YJ_bin rfl rfl (iop_add (by omega))) ?_
    refine LJ_call0 rfl rfl rfl rfl rfl (at_c (W := W) (x := ((x : Nat) : Int)) (y := ((y : Nat) : Int) + 1) hW (by omega) (by omega)) (AllIn.sub (And.intro m1 trivial)) ?_
    refine LJ_y rfl rfl (YJ_assign rfl) ?_
    refine LJ_y rfl rfl (YJ_assign rfl) ?_
    refine LJ_y rfl rfl (YJ_assign rfl) ?_
    refine LJ_y rfl rfl (YJ_assign rfl) ?_
    refine LJ_nil ?_
    refine QJ_then ?_
    refine CJ_seq ?_
    refine CJ_seq ?_
    refine CJ_reg ?_
    refine LJ_y rfl rfl (YJ_move rfl) ?_
    refine LJ_y rfl rfl (YJ_move rfl) ?_
    refine LJ_y rfl rfl (YJ_shr rfl rfl (Int.natCast_nonneg _)) ?_
    refine LJ_y rfl rfl (YJ_andU rfl rfl (Int.ediv_nonneg hv.1 (Int.le_of_lt (Int.pow_pos (by decide))))) ?_
    refine LJ_y rfl rfl (YJ_bin rfl rfl rfl) ?_
    refine LJ_nil ?_
    refine QJ_then ?_
    refine CJ_cond rfl (fun h86 => ?_) (fun h86 => ?_)
    ·simp only [decide_eq_true_eq] at h86
     have hb86 : bitN v (W * y + x) = true := decide_eq_true (p := v / 2 ^ min (W * y + x) 32 % 2 = 1) h86
     refine CJ_reg ?_
     refine LJ_y rfl rfl (YJ_move rfl) ?_
     refine LJ_y rfl rfl (YJ_move rfl) ?_
     refine LJ_y rfl rfl (YJ_move rfl) ?_
     refine LJ_y rfl rfl (YJ_move rfl) ?_
     refine LJ_y rfl rfl (YJ_build1 (cs := [_, _, _]) lay_34 rfl rfl rfl) ?_
     refine LJ_y rfl rfl (YJ_move rfl) ?_
     refine LJ_y rfl rfl (YJ_move rfl) ?_
     refine LJ_y rfl rfl (YJ_move rfl) ?_
     refine LJ_y rfl rfl (YJ_build1 (cs := [_, _, _]) lay_34 rfl rfl rfl) ?_
     refine LJ_buildSliceN (vs := [_, _]) (cs := [_, _, _, _, _, _]) rfl rfl elt_47 zer_34 (by decide) (by decide) rfl rfl rfl rfl rfl ?_
     intro b3
     refine LJ_append 1 rfl rfl elt_47 zer_34 rfl rfl rfl rfl (Rd_own m0) rfl rfl (by omega) (by omega) (by decide) (t3_T hb86) ?_
     intro A9 c9
     show LJ _ _ _ _ _ (_ :: _ :: _) _
     refine LJ_y rfl rfl (YJ_assign rfl) ?_
     refine LJ_nil ?_
     refine QJ_then ?_
     refine CJ_reg ?_
     refine LJ_y rfl rfl (YJ_move rfl) ?_
     refine LJ_y rfl rfl (YJ_bin rfl rfl (iop_add (by omega))) ?_
     refine LJ_val (v := .int .i64 ((W * y + (x + 1) : Nat) : Int)) (congrArg (Value.int .i64) (by omega)) ?_
     refine LJ_y rfl rfl (YJ_assign rfl) ?_
     refine LJ_nil ?_
     refine QJ_in_normal ?_
     refine QJ_then ?_
     refine CJ_reg ?_
     refine LJ_y rfl rfl (YJ_bin rfl rfl (iop_add (by omega))) ?_
     refine LJ_y rfl rfl (YJ_move rfl) ?_
     refine LJ_nil ?_
     refine QJ_roundF (F := fun (i : Nat × Nat × Option Addr × Nat) => ⟨[(1, .int .i64 (H : Int)), (2, .int .u32 v), (3, .int .u32 fa), (4, .pointer (some ⟨b1, 0, none⟩)), (10, .slice A0 (gPts W H).length c0), (14, .func (.func 57) #[] #[.pointer (some ⟨b1, 0, none⟩)]), (13, .slice i.2.2.1 i.2.1 i.2.2.2), (15, .int .i64 ((W * y + i.1 : Nat) : Int)), (54, .int .i64 (H : Int)), (55, .int .i64 (y : Nat)), (16, .int .i64 (y : Nat)), (58, .int .i64 (W : Int)), (59, .int .i64 (i.1 : Nat))], [rowR 34 3 i.2.2.1 i.2.1 i.2.2.2 (t3Cells (trisG W (bitN v) y i.1))], []⟩) (I := fun (i : Nat × Nat × Option Addr × Nat) => i.1 ≤ W ∧ i.2.1 = (trisG W (bitN v) y i.1).length ∧ i.2.1 ≤ 4 * y + 2 * i.1) (m := fun (i : Nat × Nat × Option Addr × Nat) => W - i.1) (i := (x, n1, A1, c1)) ((x + 1, n1 + 2, A9, c9)) (μd := [_]) ⟨by omega, by dsimp only; rw [trisG_x, List.length_append, tri2_len, ← hn1], by dsimp only; omega⟩ (by dsimp only; omega) (And.intro rfl (And.intro rfl (And.intro rfl (And.intro rfl (And.intro rfl (And.intro rfl (And.intro rfl (And.intro rfl (And.intro rfl (And.intro rfl (And.intro rfl (And.intro rfl (And.intro rfl (trivial)))))))))))))) (permI [1] rfl) (fun _ h => nomatch h) (fun _ h => h)
    ·simp only [decide_eq_false_iff_not] at h86
     have hb86 : bitN v (W * y + x) = false := decide_eq_false (p := v / 2 ^ min (W * y + x) 32 % 2 = 1) h86
     refine CJ_reg ?_
     refine LJ_y rfl rfl (YJ_move rfl) ?_
     refine LJ_y rfl rfl (YJ_move rfl) ?_
     refine LJ_y rfl rfl (YJ_move rfl) ?_
     refine LJ_y rfl rfl (YJ_move rfl) ?_
     refine LJ_y rfl rfl (YJ_build1 (cs := [_, _, _]) lay_34 rfl rfl rfl) ?_
     refine LJ_y rfl rfl (YJ_move rfl) ?_
     refine LJ_y rfl rfl (YJ_move rfl) ?_
     refine LJ_y rfl rfl (YJ_move rfl) ?_
     refine LJ_y rfl rfl (YJ_build1 (cs := [_, _, _]) lay_34 rfl rfl rfl) ?_
     refine LJ_buildSliceN (vs := [_, _]) (cs := [_, _, _, _, _, _]) rfl rfl elt_47 zer_34 (by decide) (by decide) rfl rfl rfl rfl rfl ?_
     intro b4
     refine LJ_append 1 rfl rfl elt_47 zer_34 rfl rfl rfl rfl (Rd_own m0) rfl rfl (by omega) (by omega) (by decide) (t3_F hb86) ?_
     intro A9 c9
     show LJ _ _ _ _ _ (_ :: _ :: _) _
     refine LJ_y rfl rfl (YJ_assign rfl) ?_
     refine LJ_nil ?_
     refine QJ_then ?_
     refine CJ_reg ?_
     refine LJ_y rfl rfl (YJ_move rfl) ?_
     refine LJ_y rfl rfl (YJ_bin rfl rfl (iop_add (by omega))) ?_
     refine LJ_val (v := .int .i64 ((W * y + (x + 1) : Nat) : Int)) (congrArg (Value.int .i64) (by omega)) ?_
     refine LJ_y rfl rfl (YJ_assign rfl) ?_
     refine LJ_nil ?_
     refine QJ_in_normal ?_
     refine QJ_then ?_
     refine CJ_reg ?_
     refine LJ_y rfl rfl (YJ_bin rfl rfl (iop_add (by omega))) ?_
     refine LJ_y rfl rfl (YJ_move rfl) ?_
     refine LJ_nil ?_
     refine QJ_roundF (F := fun (i : Nat × Nat × Option Addr × Nat) => ⟨[(1, .int .i64 (H : Int)), (2, .int .u32 v), (3, .int .u32 fa), (4, .pointer (some ⟨b1, 0, none⟩)), (10, .slice A0 (gPts W H).length c0), (14, .func (.func 57) #[] #[.pointer (some ⟨b1, 0, none⟩)]), (13, .slice i.2.2.1 i.2.1 i.2.2.2), (15, .int .i64 ((W * y + i.1 : Nat) : Int)), (54, .int .i64 (H : Int)), (55, .int .i64 (y : Nat)), (16, .int .i64 (y : Nat)), (58, .int .i64 (W : Int)), (59, .int .i64 (i.1 : Nat))], [rowR 34 3 i.2.2.1 i.2.1 i.2.2.2 (t3Cells (trisG W (bitN v) y i.1))], []⟩) (I := fun (i : Nat × Nat × Option Addr × Nat) => i.1 ≤ W ∧ i.2.1 = (trisG W (bitN v) y i.1).length ∧ i.2.1 ≤ 4 * y + 2 * i.1) (m := fun (i : Nat × Nat × Option Addr × Nat) => W - i.1) (i := (x, n1, A1, c1)) ((x + 1, n1 + 2, A9, c9)) (μd := [_]) ⟨by omega, by dsimp only; rw [trisG_x, List.length_append, tri2_len, ← hn1], by dsimp only; omega⟩ (by dsimp only; omega) (And.intro rfl (And.intro rfl (And.intro rfl (And.intro rfl (And.intro rfl (And.intro rfl (And.intro rfl (And.intro rfl (And.intro rfl (And.intro rfl (And.intro rfl (And.intro rfl (And.intro rfl (trivial)))))))))))))) (permI [1] rfl) (fun _ h => nomatch h) (fun _ h => h)
   ·simp only [decide_eq_false_iff_not] at h60
    have hx9 : W = x := by omega
    subst hx9
    rw [← trisG_y] at hn1 ⊢
    have hW3 : W ≤ 2 := by omega
    refine CJ_exit ?_
    refine QJ_then_exit ?_
    refine QJ_then_exit ?_
    refine QJ_in_exit ?_
    refine QJ_in_normal ?_
    refine QJ_then ?_
    refine CJ_reg ?_
    refine LJ_y rfl rfl (YJ_bin rfl rfl (iop_add (by omega))) ?_
    refine LJ_y rfl rfl (YJ_move rfl) ?_
    refine LJ_nil ?_
    refine QJ_roundF (F := fun (i : Nat × Nat × Option Addr × Nat) => ⟨[(1, .int .i64 (H : Int)), (2, .int .u32 v), (3, .int .u32 fa), (4, .pointer (some ⟨b1, 0, none⟩)), (10, .slice A0 (gPts W H).length c0), (14, .func (.func 57) #[] #[.pointer (some ⟨b1, 0, none⟩)]), (13, .slice i.2.2.1 i.2.1 i.2.2.2), (15, .int .i64 ((W * i.1 : Nat) : Int)), (54, .int .i64 (H : Int)), (55, .int .i64 (i.1 : Nat))], [rowR 34 3 i.2.2.1 i.2.1 i.2.2.2 (t3Cells (trisG W (bitN v) i.1 0))], []⟩) (I := fun (i : Nat × Nat × Option Addr × Nat) => i.1 ≤ H ∧ i.2.1 = (trisG W (bitN v) i.1 0).length ∧ i.2.1 ≤ 4 * i.1) (m := fun (i : Nat × Nat × Option Addr × Nat) => H - i.1) (i := (y, n, TA, cT)) ((y + 1, n1, A1, c1)) (μd := []) ⟨by omega, hn1, by dsimp only; omega⟩ (by dsimp only; omega) (And.intro rfl (And.intro rfl (And.intro rfl (And.intro rfl (And.intro rfl (And.intro rfl (And.intro rfl (And.intro rfl (And.intro rfl (And.intro rfl (trivial))))))))))) (permI [] rfl) (fun _ h => nomatch h) (fun _ h => h)
  ·simp only [decide_eq_false_iff_not] at h56
   have hy9 : H = y := by omega
   subst hy9
   subst hn
   have hTl : (gTris W H (bitN v)).length ≤ 8 := by show (trisG W (bitN v) H 0).length ≤ 8; omega
   refine CJ_exit ?_
   refine QJ_then_exit ?_
   refine QJ_then_exit ?_
   refine QJ_in_exit ?_
   refine QJ_then ?_
   refine CJ_seq ?_
   refine CJ_freezeRowK (n' := (gTris W H (bitN v)).length) (xs' := t3Cells (gTris W H (bitN v))) 0 rfl rfl rfl ?_
   show CJ _ _ _ _ (_) _
   refine CJ_reg ?_
   refine LJ_makeMap rfl rfl ?_
   intro fm
   refine LJ_y rfl rfl (YJ_assign rfl) ?_
   refine LJ_nil ?_
   refine QJ_then ?_
   refine CJ_seq ?_
   refine CJ_reg ?_
   refine LJ_y rfl rfl (YJ_assign rfl) ?_
   refine LJ_nil ?_
   refine QJ_then ?_
   refine CJ_seq ?_
   refine CJ_seq ?_
   refine CJ_reg ?_
   refine LJ_y rfl rfl (YJ_move rfl) ?_
   refine LJ_y rfl rfl (YJ_len rfl ulen_47 rfl) ?_
   refine LJ_y rfl rfl (YJ_move rfl) ?_
   refine LJ_nil ?_
   refine QJ_then ?_
   refine CJ_block ?_
   refine CJ_loopF (F := fun (i : Nat × Nat × MapI × Nat) => ⟨[(1, .int .i64 (H : Int)), (2, .int .u32 v), (3, .int .u32 fa), (4, .pointer (some ⟨b1, 0, none⟩)), (10, .slice A0 (gPts W H).length c0), (13, .slice TA (gTris W H (bitN v)).length cT), (22, .map (some fm)), (23, .int .i64 (i.2.1 : Nat)), (114, .slice TA (gTris W H (bitN v)).length cT), (115, .int .i64 ((gTris W H (bitN v)).length : Nat)), (116, .int .i64 (i.1 : Nat))], [mapR fm fK gI i.2.2.1 i.2.2.2], []⟩) (I := fun (i : Nat × Nat × MapI × Nat) => i.1 ≤ (gTris W H (bitN v)).length ∧ (fa = 0 → i.2.2.1 = []) ∧ i.2.1 ≤ 3 * i.1) (m := fun (i : Nat × Nat × MapI × Nat) => (gTris W H (bitN v)).length - i.1) (0, 0, [], 0) (μr := []) ⟨Nat.zero_le _, fun _ => rfl, Nat.le_refl _⟩ (And.intro rfl (And.intro rfl (And.intro rfl (And.intro rfl (And.intro rfl (And.intro rfl (And.intro rfl (And.intro rfl (And.intro rfl (And.intro rfl (And.intro rfl (trivial)))))))))))) (permI [] rfl) (fun _ h => nomatch h) ?_
   rintro ⟨k, n, F, cF⟩ ⟨hk, hF, hnb⟩
   try dsimp only at hk
   try dsimp only at hF
   try dsimp only at hnb
   show CJ _ _ _ [(1, .int .i64 (H : Int)), (2, .int .u32 v), (3, .int .u32 fa), (4, .pointer (some ⟨b1, 0, none⟩)), (10, .slice A0 (gPts W H).length c0), (13, .slice TA (gTris W H (bitN v)).length cT), (22, .map (some fm)), (23, .int .i64 (n : Nat)), (114, .slice TA (gTris W H (bitN v)).length cT), (115, .int .i64 ((gTris W H (bitN v)).length : Nat)), (116, .int .i64 (k : Nat))] (mapR fm fK gI F cF :: _) _
   refine CJ_seq ?_
   refine CJ_reg ?_
   refine LJ_y rfl rfl (YJ_bin rfl rfl rfl) ?_
   refine LJ_nil ?_
   refine QJ_then ?_
   refine CJ_seq ?_
   refine CJ_cond rfl (fun h117 => ?_) (fun h117 => ?_)
   ·simp only [decide_eq_true_eq] at h117
    obtain ⟨x, hx⟩ := get_at (l := gTris W H (bitN v)) h117
    refine CJ_skip ?_
    refine QJ_then ?_
    refine CJ_seq ?_
    refine CJ_block ?_
    refine CJ_seq ?_
    refine CJ_reg ?_
    refine LJ_y rfl rfl (YJ_ixFact (n' := (gTris W H (bitN v)).length) rfl rfl elt_47 m0 (by decide) (by omega) (by omega) (by omega)) ?_
    refine LJ_y rfl rfl (YJ_loadFactN (vs := [.int .i64 x.1, .int .i64 x.2.1, .int .i64 x.2.2]) (xs := t3Cells (gTris W H (bitN v))) rfl tyi_34 m0 (t3_row hx) rfl) ?_
    refine LJ_alloc (cs := #[_, _, _]) rfl rfl zer_34 rfl ?_
    intro b6
    refine LJ_store (cs' := #[_, _, _]) (μ' := [_, _]) 0 rfl rfl rfl rfl tyi_34 rfl (Nat.le_of_ble_eq_true rfl) rfl rfl rfl ?_
    refine LJ_nil ?_
    refine QJ_then ?_
    refine CJ_seq ?_
    refine CJ_reg ?_
    refine LJ_y rfl rfl (YJ_move rfl) ?_
    refine LJ_nil ?_
    refine QJ_then ?_
    refine CJ_block ?_
    refine CJ_loopF (F := fun (i : Nat × Nat × MapI × Nat) => ⟨[(1, .int .i64 (H : Int)), (2, .int .u32 v), (3, .int .u32 fa), (4, .pointer (some ⟨b1, 0, none⟩)), (10, .slice A0 (gPts W H).length c0), (13, .slice TA (gTris W H (bitN v)).length cT), (22, .map (some fm)), (23, .int .i64 (i.2.1 : Nat)), (114, .slice TA (gTris W H (bitN v)).length cT), (115, .int .i64 ((gTris W H (bitN v)).length : Nat)), (116, .int .i64 (k : Nat)), (25, .pointer (some ⟨b6, 0, none⟩)), (120, .int .i64 (i.1 : Nat))], [mapR fm fK gI i.2.2.1 i.2.2.2, cellsR b6 #[.int .i64 x.1, .int .i64 x.2.1, .int .i64 x.2.2] 34], []⟩) (I := fun (i : Nat × Nat × MapI × Nat) => i.1 ≤ 3 ∧ (fa = 0 → i.2.2.1 = []) ∧ i.2.1 ≤ 3 * k + i.1) (m := fun (i : Nat × Nat × MapI × Nat) => 3 - i.1) (0, n, F, cF) (μr := []) ⟨Nat.zero_le _, hF, hnb⟩ (And.intro rfl (And.intro rfl (And.intro rfl (And.intro rfl (And.intro rfl (And.intro rfl (And.intro rfl (And.intro rfl (And.intro rfl (And.intro rfl (And.intro rfl (And.intro rfl (And.intro rfl (trivial)))))))))))))) (permI [1] rfl) (fun _ h => nomatch h) ?_
    rintro ⟨j, n1, F1, cF1⟩ ⟨hj, hF1, hnb1⟩
    try dsimp only at hj
    try dsimp only at hF1
    try dsimp only at hnb1
    show CJ _ _ _ [(1, .int .i64 (H : Int)), (2, .int .u32 v), (3, .int .u32 fa), (4, .pointer (some ⟨b1, 0, none⟩)), (10, .slice A0 (gPts W H).length c0), (13, .slice TA (gTris W H (bitN v)).length cT), (22, .map (some fm)), (23, .int .i64 (n1 : Nat)), (114, .slice TA (gTris W H (bitN v)).length cT), (115, .int .i64 ((gTris W H (bitN v)).length : Nat)), (116, .int .i64 (k : Nat)), (25, .pointer (some ⟨b6, 0, none⟩)), (120, .int .i64 (j : Nat))] (mapR fm fK gI F1 cF1 :: cellsR b6 #[.int .i64 x.1, .int .i64 x.2.1, .int .i64 x.2.2] 34 :: _) _
    refine CJ_seq ?_
    refine CJ_reg ?_
    refine LJ_y rfl rfl (YJ_bin rfl rfl rfl) ?_
    refine LJ_nil ?_
    refine QJ_then ?_
    refine CJ_seq ?_
    refine CJ_cond rfl (fun h121 => ?_) (fun h121 => ?_)
    ·simp only [decide_eq_true_eq] at h121
     refine CJ_skip ?_
     refine QJ_then ?_
     refine CJ_seq ?_
     refine CJ_block ?_
     refine CJ_seq ?_
     refine CJ_reg ?_
     rcases (by omega : j = 0 ∨ j = 1 ∨ j = 2) with rfl | rfl | rfl
     ·skip
      refine LJ_y rfl rfl (YJ_move rfl) ?_
      refine LJ_y rfl rfl (YJ_assign rfl) ?_
      refine LJ_nil ?_
      refine QJ_then ?_
      refine CJ_seq ?_
      refine CJ_seq ?_
      refine CJ_reg ?_
      refine LJ_y rfl rfl (YJ_move rfl) ?_
      refine LJ_y rfl rfl (YJ_move rfl) ?_
      refine LJ_y rfl rfl (YJ_rem rfl rfl (by first | decide | omega)) ?_
      refine LJ_y rfl rfl (YJ_shr rfl rfl (Int.tmod_nonneg _ (by omega))) ?_
      refine LJ_y rfl rfl (YJ_andU rfl rfl (Int.ediv_nonneg hf.1 (Int.le_of_lt (Int.pow_pos (by decide))))) ?_
      refine LJ_y rfl rfl (YJ_bin rfl rfl rfl) ?_
      refine LJ_nil ?_
      refine QJ_then ?_
      refine CJ_cond rfl (fun h128 => ?_) (fun h128 => ?_)
      ·simp only [decide_eq_true_eq] at h128
       refine CJ_regD mix (by kernel_rfl) (fun _ _ _ _ _ h => h) (selR [1] _) _ (selR_sub _ _) (fun _ h => h) ?_
       refine AJ_y 0 rfl (by kernel_rfl) (by kernel_rfl) rfl rfl (YJ_move rfl) ?_
       refine AJ_y 1 rfl (by kernel_rfl) (by kernel_rfl) rfl rfl (YJ_move rfl) ?_
       refine AJ_val (v := .int .i64 0) (rfl) ?_
       refine AJ_y 2 rfl (by kernel_rfl) (by kernel_rfl) rfl rfl (YJ_ixArr rfl rfl arrt_34 (by omega) (by omega) rfl) ?_
       refine AJ_y 3 rfl (by kernel_rfl) (by kernel_rfl) rfl rfl (YJ_loadL rfl tyi_3 m0 rfl) ?_
       refine AJ_y 4 rfl (by kernel_rfl) (by kernel_rfl) rfl rfl (YJ_move rfl) ?_
       refine AJ_y 5 rfl (by kernel_rfl) (by kernel_rfl) rfl rfl (YJ_bin rfl rfl (iop_add (by omega))) ?_
       refine AJ_y 6 rfl (by kernel_rfl) (by kernel_rfl) rfl rfl (YJ_rem rfl rfl (by first | decide | omega)) ?_
       refine AJ_val (v := .int .i64 1) (rfl) ?_
       refine AJ_y 7 rfl (by kernel_rfl) (by kernel_rfl) rfl rfl (YJ_ixArr rfl rfl arrt_34 (by omega) (by omega) rfl) ?_
       refine AJ_y 8 rfl (by kernel_rfl) (by kernel_rfl) rfl rfl (YJ_loadL rfl tyi_3 m0 rfl) ?_
       refine AJ_y 9 rfl (by kernel_rfl) (by kernel_rfl) rfl rfl (YJ_min2 rfl rfl) ?_
       refine AJ_y 10 rfl (by kernel_rfl) (by kernel_rfl) rfl rfl (YJ_move rfl) ?_
       refine AJ_val (v := .int .i64 0) (rfl) ?_
       refine AJ_y 11 rfl (by kernel_rfl) (by kernel_rfl) rfl rfl (YJ_ixArr rfl rfl arrt_34 (by omega) (by omega) rfl) ?_
       refine AJ_y 12 rfl (by kernel_rfl) (by kernel_rfl) rfl rfl (YJ_loadL rfl tyi_3 m0 rfl) ?_
       refine AJ_y 13 rfl (by kernel_rfl) (by kernel_rfl) rfl rfl (YJ_move rfl) ?_
       refine AJ_y 14 rfl (by kernel_rfl) (by kernel_rfl) rfl rfl (YJ_bin rfl rfl (iop_add (by omega))) ?_
       refine AJ_y 15 rfl (by kernel_rfl) (by kernel_rfl) rfl rfl (YJ_rem rfl rfl (by first | decide | omega)) ?_
       refine AJ_val (v := .int .i64 1) (rfl) ?_
       refine AJ_y 16 rfl (by kernel_rfl) (by kernel_rfl) rfl rfl (YJ_ixArr rfl rfl arrt_34 (by omega) (by omega) rfl) ?_
       refine AJ_y 17 rfl (by kernel_rfl) (by kernel_rfl) rfl rfl (YJ_loadL rfl tyi_3 m0 rfl) ?_
       refine AJ_y 18 rfl (by kernel_rfl) (by kernel_rfl) rfl rfl (YJ_max2 rfl rfl) ?_
       refine AJ_y 19 rfl (by kernel_rfl) (by kernel_rfl) rfl rfl (YJ_build1 (cs := [_, _]) lay_46 rfl rfl rfl) ?_
       refine AJ_mapUpdate (f := fK) (g := gI) (k := (min (x.1) (x.2.1), max (x.1) (x.2.1))) (v := (1 : Int)) 20 0 rfl (by kernel_rfl) rfl rfl rfl rfl rfl umap_116 keyO rfl rfl (AllIn.sub (And.intro m1 (trivial))) ?_
       show AJ _ _ _ _ _ _ _ _ (_ :: _ :: _) _
       refine AJ_done (by kernel_rfl) ?_
       refine QJ_then ?_
       refine CJ_reg ?_
       refine LJ_y rfl rfl (YJ_move rfl) ?_
       refine LJ_y rfl rfl (YJ_bin rfl rfl (iop_add (by omega))) ?_
       refine LJ_y rfl rfl (YJ_assign rfl) ?_
       refine LJ_nil ?_
       refine QJ_in_normal ?_
       refine QJ_then ?_
       refine CJ_reg ?_
       refine LJ_y rfl rfl (YJ_bin rfl rfl (iop_add (by omega))) ?_
       refine LJ_y rfl rfl (YJ_move rfl) ?_
       refine LJ_nil ?_
       refine QJ_roundF (F := fun (i : Nat × Nat × MapI × Nat) => ⟨[(1, .int .i64 (H : Int)), (2, .int .u32 v), (3, .int .u32 fa), (4, .pointer (some ⟨b1, 0, none⟩)), (10, .slice A0 (gPts W H).length c0), (13, .slice TA (gTris W H (bitN v)).length cT), (22, .map (some fm)), (23, .int .i64 (i.2.1 : Nat)), (114, .slice TA (gTris W H (bitN v)).length cT), (115, .int .i64 ((gTris W H (bitN v)).length : Nat)), (116, .int .i64 (k : Nat)), (25, .pointer (some ⟨b6, 0, none⟩)), (120, .int .i64 (i.1 : Nat))], [mapR fm fK gI i.2.2.1 i.2.2.2, cellsR b6 #[.int .i64 x.1, .int .i64 x.2.1, .int .i64 x.2.2] 34], []⟩) (I := fun (i : Nat × Nat × MapI × Nat) => i.1 ≤ 3 ∧ (fa = 0 → i.2.2.1 = []) ∧ i.2.1 ≤ 3 * k + i.1) (m := fun (i : Nat × Nat × MapI × Nat) => 3 - i.1) (i := (_, n1, F1, cF1)) ((1, n1 + 1, mput (min (x.1) (x.2.1), max (x.1) (x.2.1)) (1 : Int) F1 cF1, mclk (min (x.1) (x.2.1), max (x.1) (x.2.1)) F1 cF1)) (μd := []) ⟨by omega, fun q => by subst q; simp at h128, by dsimp only; omega⟩ (by dsimp only; omega) (And.intro rfl (And.intro rfl (And.intro rfl (And.intro rfl (And.intro rfl (And.intro rfl (And.intro rfl (And.intro rfl (And.intro rfl (And.intro rfl (And.intro rfl (And.intro rfl (And.intro rfl (trivial)))))))))))))) (permI [] rfl) (fun _ h => nomatch h) (fun _ h => h)
      ·simp only [decide_eq_false_iff_not] at h128
       refine CJ_skip ?_
       refine QJ_then ?_
       refine CJ_reg ?_
       refine LJ_y rfl rfl (YJ_move rfl) ?_
       refine LJ_y rfl rfl (YJ_bin rfl rfl (iop_add (by omega))) ?_
       refine LJ_y rfl rfl (YJ_assign rfl) ?_
       refine LJ_nil ?_
       refine QJ_in_normal ?_
       refine QJ_then ?_
       refine CJ_reg ?_
       refine LJ_y rfl rfl (YJ_bin rfl rfl (iop_add (by omega))) ?_
       refine LJ_y rfl rfl (YJ_move rfl) ?_
       refine LJ_nil ?_
       refine QJ_roundF (F := fun (i : Nat × Nat × MapI × Nat) => ⟨[(1, .int .i64 (H : Int)), (2, .int .u32 v), (3, .int .u32 fa), (4, .pointer (some ⟨b1, 0, none⟩)), (10, .slice A0 (gPts W H).length c0), (13, .slice TA (gTris W H (bitN v)).length cT), (22, .map (some fm)), (23, .int .i64 (i.2.1 : Nat)), (114, .slice TA (gTris W H (bitN v)).length cT), (115, .int .i64 ((gTris W H (bitN v)).length : Nat)), (116, .int .i64 (k : Nat)), (25, .pointer (some ⟨b6, 0, none⟩)), (120, .int .i64 (i.1 : Nat))], [mapR fm fK gI i.2.2.1 i.2.2.2, cellsR b6 #[.int .i64 x.1, .int .i64 x.2.1, .int .i64 x.2.2] 34], []⟩) (I := fun (i : Nat × Nat × MapI × Nat) => i.1 ≤ 3 ∧ (fa = 0 → i.2.2.1 = []) ∧ i.2.1 ≤ 3 * k + i.1) (m := fun (i : Nat × Nat × MapI × Nat) => 3 - i.1) (i := (_, n1, F1, cF1)) ((1, n1 + 1, F1, cF1)) (μd := []) ⟨by omega, hF1, by dsimp only; omega⟩ (by dsimp only; omega) (And.intro rfl (And.intro rfl (And.intro rfl (And.intro rfl (And.intro rfl (And.intro rfl (And.intro rfl (And.intro rfl (And.intro rfl (And.intro rfl (And.intro rfl (And.intro rfl (And.intro rfl (trivial)))))))))))))) (permI [] rfl) (fun _ h => nomatch h) (fun _ h => h)
     ·skip
      refine LJ_y rfl rfl (YJ_move rfl) ?_
      refine LJ_y rfl rfl (YJ_assign rfl) ?_
      refine LJ_nil ?_
      refine QJ_then ?_
      refine CJ_seq ?_
      refine CJ_seq ?_
      refine CJ_reg ?_
      refine LJ_y rfl rfl (YJ_move rfl) ?_
      refine LJ_y rfl rfl (YJ_move rfl) ?_
      refine LJ_y rfl rfl (YJ_rem rfl rfl (by first | decide | omega)) ?_
      refine LJ_y rfl rfl (YJ_shr rfl rfl (Int.tmod_nonneg _ (by omega))) ?_
      refine LJ_y rfl rfl (YJ_andU rfl rfl (Int.ediv_nonneg hf.1 (Int.le_of_lt (Int.pow_pos (by decide))))) ?_
      refine LJ_y rfl rfl (YJ_bin rfl rfl rfl) ?_
      refine LJ_nil ?_
      refine QJ_then ?_
      refine CJ_cond rfl (fun h128 => ?_) (fun h128 => ?_)
      ·simp only [decide_eq_true_eq] at h128
       refine CJ_regD mix (by kernel_rfl) (fun _ _ _ _ _ h => h) (selR [1] _) _ (selR_sub _ _) (fun _ h => h) ?_
       refine AJ_y 0 rfl (by kernel_rfl) (by kernel_rfl) rfl rfl (YJ_move rfl) ?_
       refine AJ_y 1 rfl (by kernel_rfl) (by kernel_rfl) rfl rfl (YJ_move rfl) ?_
       refine AJ_val (v := .int .i64 1) (rfl) ?_
       refine AJ_y 2 rfl (by kernel_rfl) (by kernel_rfl) rfl rfl (YJ_ixArr rfl rfl arrt_34 (by omega) (by omega) rfl) ?_
       refine AJ_y 3 rfl (by kernel_rfl) (by kernel_rfl) rfl rfl (YJ_loadL rfl tyi_3 m0 rfl) ?_
       refine AJ_y 4 rfl (by kernel_rfl) (by kernel_rfl) rfl rfl (YJ_move rfl) ?_
       refine AJ_y 5 rfl (by kernel_rfl) (by kernel_rfl) rfl rfl (YJ_bin rfl rfl (iop_add (by omega))) ?_
       refine AJ_y 6 rfl (by kernel_rfl) (by kernel_rfl) rfl rfl (YJ_rem rfl rfl (by first | decide | omega)) ?_
       refine AJ_val (v := .int .i64 2) (rfl) ?_
       refine AJ_y 7 rfl (by kernel_rfl) (by kernel_rfl) rfl rfl (YJ_ixArr rfl rfl arrt_34 (by omega) (by omega) rfl) ?_
       refine AJ_y 8 rfl (by kernel_rfl) (by kernel_rfl) rfl rfl (YJ_loadL rfl tyi_3 m0 rfl) ?_
       refine AJ_y 9 rfl (by kernel_rfl) (by kernel_rfl) rfl rfl (YJ_min2 rfl rfl) ?_
       refine AJ_y 10 rfl (by kernel_rfl) (by kernel_rfl) rfl rfl (YJ_move rfl) ?_
       refine AJ_val (v := .int .i64 1) (rfl) ?_
       refine AJ_y 11 rfl (by kernel_rfl) (by kernel_rfl) rfl rfl (YJ_ixArr rfl rfl arrt_34 (by omega) (by omega) rfl) ?_
       refine AJ_y 12 rfl (by kernel_rfl) (by kernel_rfl) rfl rfl (YJ_loadL rfl tyi_3 m0 rfl) ?_
       refine AJ_y 13 rfl (by kernel_rfl) (by kernel_rfl) rfl rfl (YJ_move rfl) ?_
       refine AJ_y 14 rfl (by kernel_rfl) (by kernel_rfl) rfl rfl (YJ_bin rfl rfl (iop_add (by omega))) ?_
       refine AJ_y 15 rfl (by kernel_rfl) (by kernel_rfl) rfl rfl (YJ_rem rfl rfl (by first | decide | omega)) ?_
       refine AJ_val (v := .int .i64 2) (rfl) ?_
       refine AJ_y 16 rfl (by kernel_rfl) (by kernel_rfl) rfl rfl (YJ_ixArr rfl rfl arrt_34 (by omega) (by omega) rfl) ?_
       refine AJ_y 17 rfl (by kernel_rfl) (by kernel_rfl) rfl rfl (YJ_loadL rfl tyi_3 m0 rfl) ?_
       refine AJ_y 18 rfl (by kernel_rfl) (by kernel_rfl) rfl rfl (YJ_max2 rfl rfl) ?_
       refine AJ_y 19 rfl (by kernel_rfl) (by kernel_rfl) rfl rfl (YJ_build1 (cs := [_, _]) lay_46 rfl rfl rfl) ?_
       refine AJ_mapUpdate (f := fK) (g := gI) (k := (min (x.2.1) (x.2.2), max (x.2.1) (x.2.2))) (v := (1 : Int)) 20 0 rfl (by kernel_rfl) rfl rfl rfl rfl rfl umap_116 keyO rfl rfl (AllIn.sub (And.intro m1 (trivial))) ?_
       show AJ _ _ _ _ _ _ _ _ (_ :: _ :: _) _
       refine AJ_done (by kernel_rfl) ?_
       refine QJ_then ?_
       refine CJ_reg ?_
       refine LJ_y rfl rfl (YJ_move rfl) ?_
       refine LJ_y rfl rfl (YJ_bin rfl rfl (iop_add (by omega))) ?_
       refine LJ_y rfl rfl (YJ_assign rfl) ?_
       refine LJ_nil ?_
       refine QJ_in_normal ?_
       refine QJ_then ?_
       refine CJ_reg ?_
       refine LJ_y rfl rfl (YJ_bin rfl rfl (iop_add (by omega))) ?_
       refine LJ_y rfl rfl (YJ_move rfl) ?_
       refine LJ_nil ?_
       refine QJ_roundF (F := fun (i : Nat × Nat × MapI × Nat) => ⟨[(1, .int .i64 (H : Int)), (2, .int .u32 v), (3, .int .u32 fa), (4, .pointer (some ⟨b1, 0, none⟩)), (10, .slice A0 (gPts W H).length c0), (13, .slice TA (gTris W H (bitN v)).length cT), (22, .map (some fm)), (23, .int .i64 (i.2.1 : Nat)), (114, .slice TA (gTris W H (bitN v)).length cT), (115, .int .i64 ((gTris W H (bitN v)).length : Nat)), (116, .int .i64 (k : Nat)), (25, .pointer (some ⟨b6, 0, none⟩)), (120, .int .i64 (i.1 : Nat))], [mapR fm fK gI i.2.2.1 i.2.2.2, cellsR b6 #[.int .i64 x.1, .int .i64 x.2.1, .int .i64 x.2.2] 34], []⟩) (I := fun (i : Nat × Nat × MapI × Nat) => i.1 ≤ 3 ∧ (fa = 0 → i.2.2.1 = []) ∧ i.2.1 ≤ 3 * k + i.1) (m := fun (i : Nat × Nat × MapI × Nat) => 3 - i.1) (i := (_, n1, F1, cF1)) ((2, n1 + 1, mput (min (x.2.1) (x.2.2), max (x.2.1) (x.2.2)) (1 : Int) F1 cF1, mclk (min (x.2.1) (x.2.2), max (x.2.1) (x.2.2)) F1 cF1)) (μd := []) ⟨by omega, fun q => by subst q; simp at h128, by dsimp only; omega⟩ (by dsimp only; omega) (And.intro rfl (And.intro rfl (And.intro rfl (And.intro rfl (And.intro rfl (And.intro rfl (And.intro rfl (And.intro rfl (And.intro rfl (And.intro rfl (And.intro rfl (And.intro rfl (And.intro rfl (trivial)))))))))))))) (permI [] rfl) (fun _ h => nomatch h) (fun _ h => h)
      ·simp only [decide_eq_false_iff_not] at h128
       refine CJ_skip ?_
       refine QJ_then ?_
       refine CJ_reg ?_
       refine LJ_y rfl rfl (YJ_move rfl) ?_
       refine LJ_y rfl rfl (YJ_bin rfl rfl (iop_add (by omega))) ?_
       refine LJ_y rfl rfl (YJ_assign rfl) ?_
       refine LJ_nil ?_
       refine QJ_in_normal ?_
       refine QJ_then ?_
       refine CJ_reg ?_
       refine LJ_y rfl rfl (YJ_bin rfl rfl (iop_add (by omega))) ?_
       refine LJ_y rfl rfl (YJ_move rfl) ?_
       refine LJ_nil ?_
       refine QJ_roundF (F := fun (i : Nat × Nat × MapI × Nat) => ⟨[(1, .int .i64 (H : Int)), (2, .int .u32 v), (3, .int .u32 fa), (4, .pointer (some ⟨b1, 0, none⟩)), (10, .slice A0 (gPts W H).length c0), (13, .slice TA (gTris W H (bitN v)).length cT), (22, .map (some fm)), (23, .int .i64 (i.2.1 : Nat)), (114, .slice TA (gTris W H (bitN v)).length cT), (115, .int .i64 ((gTris W H (bitN v)).length : Nat)), (116, .int .i64 (k : Nat)), (25, .pointer (some ⟨b6, 0, none⟩)), (120, .int .i64 (i.1 : Nat))], [mapR fm fK gI i.2.2.1 i.2.2.2, cellsR b6 #[.int .i64 x.1, .int .i64 x.2.1, .int .i64 x.2.2] 34], []⟩) (I := fun (i : Nat × Nat × MapI × Nat) => i.1 ≤ 3 ∧ (fa = 0 → i.2.2.1 = []) ∧ i.2.1 ≤ 3 * k + i.1) (m := fun (i : Nat × Nat × MapI × Nat) => 3 - i.1) (i := (_, n1, F1, cF1)) ((2, n1 + 1, F1, cF1)) (μd := []) ⟨by omega, hF1, by dsimp only; omega⟩ (by dsimp only; omega) (And.intro rfl (And.intro rfl (And.intro rfl (And.intro rfl (And.intro rfl (And.intro rfl (And.intro rfl (And.intro rfl (And.intro rfl (And.intro rfl (And.intro rfl (And.intro rfl (And.intro rfl (trivial)))))))))))))) (permI [] rfl) (fun _ h => nomatch h) (fun _ h => h)
     ·skip
      refine LJ_y rfl rfl (YJ_move rfl) ?_
      refine LJ_y rfl rfl (YJ_assign rfl) ?_
      refine LJ_nil ?_
      refine QJ_then ?_
      refine CJ_seq ?_
      refine CJ_seq ?_
      refine CJ_reg ?_
      refine LJ_y rfl rfl (YJ_move rfl) ?_
      refine LJ_y rfl rfl (YJ_move rfl) ?_
      refine LJ_y rfl rfl (YJ_rem rfl rfl (by first | decide | omega)) ?_
      refine LJ_y rfl rfl (YJ_shr rfl rfl (Int.tmod_nonneg _ (by omega))) ?_
      refine LJ_y rfl rfl (YJ_andU rfl rfl (Int.ediv_nonneg hf.1 (Int.le_of_lt (Int.pow_pos (by decide))))) ?_
      refine LJ_y rfl rfl (YJ_bin rfl rfl rfl) ?_
      refine LJ_nil ?_
      refine QJ_then ?_
      refine CJ_cond rfl (fun h128 => ?_) (fun h128 => ?_)
      ·simp only [decide_eq_true_eq] at h128
       refine CJ_regD mix (by kernel_rfl) (fun _ _ _ _ _ h => h) (selR [1] _) _ (selR_sub _ _) (fun _ h => h) ?_
       refine AJ_y 0 rfl (by kernel_rfl) (by kernel_rfl) rfl rfl (YJ_move rfl) ?_
       refine AJ_y 1 rfl (by kernel_rfl) (by kernel_rfl) rfl rfl (YJ_move rfl) ?_
       refine AJ_val (v := .int .i64 2) (rfl) ?_
       refine AJ_y 2 rfl (by kernel_rfl) (by kernel_rfl) rfl rfl (YJ_ixArr rfl rfl arrt_34 (by omega) (by omega) rfl) ?_
       refine AJ_y 3 rfl (by kernel_rfl) (by kernel_rfl) rfl rfl (YJ_loadL rfl tyi_3 m0 rfl) ?_
       refine AJ_y 4 rfl (by kernel_rfl) (by kernel_rfl) rfl rfl (YJ_move rfl) ?_
       refine AJ_y 5 rfl (by kernel_rfl) (by kernel_rfl) rfl rfl (YJ_bin rfl rfl (iop_add (by omega))) ?_
       refine AJ_y 6 rfl (by kernel_rfl) (by kernel_rfl) rfl rfl (YJ_rem rfl rfl (by first | decide | omega)) ?_
       refine AJ_val (v := .int .i64 0) (rfl) ?_
       refine AJ_y 7 rfl (by kernel_rfl) (by kernel_rfl) rfl rfl (YJ_ixArr rfl rfl arrt_34 (by omega) (by omega) rfl) ?_
       refine AJ_y 8 rfl (by kernel_rfl) (by kernel_rfl) rfl rfl (YJ_loadL rfl tyi_3 m0 rfl) ?_
       refine AJ_y 9 rfl (by kernel_rfl) (by kernel_rfl) rfl rfl (YJ_min2 rfl rfl) ?_
       refine AJ_y 10 rfl (by kernel_rfl) (by kernel_rfl) rfl rfl (YJ_move rfl) ?_
       refine AJ_val (v := .int .i64 2) (rfl) ?_
       refine AJ_y 11 rfl (by kernel_rfl) (by kernel_rfl) rfl rfl (YJ_ixArr rfl rfl arrt_34 (by omega) (by omega) rfl) ?_
       refine AJ_y 12 rfl (by kernel_rfl) (by kernel_rfl) rfl rfl (YJ_loadL rfl tyi_3 m0 rfl) ?_
       refine AJ_y 13 rfl (by kernel_rfl) (by kernel_rfl) rfl rfl (YJ_move rfl) ?_
       refine AJ_y 14 rfl (by kernel_rfl) (by kernel_rfl) rfl rfl (YJ_bin rfl rfl (iop_add (by omega))) ?_
       refine AJ_y 15 rfl (by kernel_rfl) (by kernel_rfl) rfl rfl (YJ_rem rfl rfl (by first | decide | omega)) ?_
       refine AJ_val (v := .int .i64 0) (rfl) ?_
       refine AJ_y 16 rfl (by kernel_rfl) (by kernel_rfl) rfl rfl (YJ_ixArr rfl rfl arrt_34 (by omega) (by omega) rfl) ?_
       refine AJ_y 17 rfl (by kernel_rfl) (by kernel_rfl) rfl rfl (YJ_loadL rfl tyi_3 m0 rfl) ?_
       refine AJ_y 18 rfl (by kernel_rfl) (by kernel_rfl) rfl rfl (YJ_max2 rfl rfl) ?_
       refine AJ_y 19 rfl (by kernel_rfl) (by kernel_rfl) rfl rfl (YJ_build1 (cs := [_, _]) lay_46 rfl rfl rfl) ?_
       refine AJ_mapUpdate (f := fK) (g := gI) (k := (min (x.2.2) (x.1), max (x.2.2) (x.1))) (v := (1 : Int)) 20 0 rfl (by kernel_rfl) rfl rfl rfl rfl rfl umap_116 keyO rfl rfl (AllIn.sub (And.intro m1 (trivial))) ?_
       show AJ _ _ _ _ _ _ _ _ (_ :: _ :: _) _
       refine AJ_done (by kernel_rfl) ?_
       refine QJ_then ?_
       refine CJ_reg ?_
       refine LJ_y rfl rfl (YJ_move rfl) ?_
       refine LJ_y rfl rfl (YJ_bin rfl rfl (iop_add (by omega))) ?_
       refine LJ_y rfl rfl (YJ_assign rfl) ?_
       refine LJ_nil ?_
       refine QJ_in_normal ?_
       refine QJ_then ?_
       refine CJ_reg ?_
       refine LJ_y rfl rfl (YJ_bin rfl rfl (iop_add (by omega))) ?_
       refine LJ_y rfl rfl (YJ_move rfl) ?_
       refine LJ_nil ?_
       refine QJ_roundF (F := fun (i : Nat × Nat × MapI × Nat) => ⟨[(1, .int .i64 (H : Int)), (2, .int .u32 v), (3, .int .u32 fa), (4, .pointer (some ⟨b1, 0, none⟩)), (10, .slice A0 (gPts W H).length c0), (13, .slice TA (gTris W H (bitN v)).length cT), (22, .map (some fm)), (23, .int .i64 (i.2.1 : Nat)), (114, .slice TA (gTris W H (bitN v)).length cT), (115, .int .i64 ((gTris W H (bitN v)).length : Nat)), (116, .int .i64 (k : Nat)), (25, .pointer (some ⟨b6, 0, none⟩)), (120, .int .i64 (i.1 : Nat))], [mapR fm fK gI i.2.2.1 i.2.2.2, cellsR b6 #[.int .i64 x.1, .int .i64 x.2.1, .int .i64 x.2.2] 34], []⟩) (I := fun (i : Nat × Nat × MapI × Nat) => i.1 ≤ 3 ∧ (fa = 0 → i.2.2.1 = []) ∧ i.2.1 ≤ 3 * k + i.1) (m := fun (i : Nat × Nat × MapI × Nat) => 3 - i.1) (i := (_, n1, F1, cF1)) ((3, n1 + 1, mput (min (x.2.2) (x.1), max (x.2.2) (x.1)) (1 : Int) F1 cF1, mclk (min (x.2.2) (x.1), max (x.2.2) (x.1)) F1 cF1)) (μd := []) ⟨by omega, fun q => by subst q; simp at h128, by dsimp only; omega⟩ (by dsimp only; omega) (And.intro rfl (And.intro rfl (And.intro rfl (And.intro rfl (And.intro rfl (And.intro rfl (And.intro rfl (And.intro rfl (And.intro rfl (And.intro rfl (And.intro rfl (And.intro rfl (And.intro rfl (trivial)))))))))))))) (permI [] rfl) (fun _ h => nomatch h) (fun _ h => h)
      ·simp only [decide_eq_false_iff_not] at h128
       refine CJ_skip ?_
       refine QJ_then ?_
       refine CJ_reg ?_
       refine LJ_y rfl rfl (YJ_move rfl) ?_
       refine LJ_y rfl rfl (YJ_bin rfl rfl (iop_add (by omega))) ?_
       refine LJ_y rfl rfl (YJ_assign rfl) ?_
       refine LJ_nil ?_
       refine QJ_in_normal ?_
       refine QJ_then ?_
       refine CJ_reg ?_
       refine LJ_y rfl rfl (YJ_bin rfl rfl (iop_add (by omega))) ?_
       refine LJ_y rfl rfl (YJ_move rfl) ?_
       refine LJ_nil ?_
       refine QJ_roundF (F := fun (i : Nat × Nat × MapI × Nat) => ⟨[(1, .int .i64 (H : Int)), (2, .int .u32 v), (3, .int .u32 fa), (4, .pointer (some ⟨b1, 0, none⟩)), (10, .slice A0 (gPts W H).length c0), (13, .slice TA (gTris W H (bitN v)).length cT), (22, .map (some fm)), (23, .int .i64 (i.2.1 : Nat)), (114, .slice TA (gTris W H (bitN v)).length cT), (115, .int .i64 ((gTris W H (bitN v)).length : Nat)), (116, .int .i64 (k : Nat)), (25, .pointer (some ⟨b6, 0, none⟩)), (120, .int .i64 (i.1 : Nat))], [mapR fm fK gI i.2.2.1 i.2.2.2, cellsR b6 #[.int .i64 x.1, .int .i64 x.2.1, .int .i64 x.2.2] 34], []⟩) (I := fun (i : Nat × Nat × MapI × Nat) => i.1 ≤ 3 ∧ (fa = 0 → i.2.2.1 = []) ∧ i.2.1 ≤ 3 * k + i.1) (m := fun (i : Nat × Nat × MapI × Nat) => 3 - i.1) (i := (_, n1, F1, cF1)) ((3, n1 + 1, F1, cF1)) (μd := []) ⟨by omega, hF1, by dsimp only; omega⟩ (by dsimp only; omega) (And.intro rfl (And.intro rfl (And.intro rfl (And.intro rfl (And.intro rfl (And.intro rfl (And.intro rfl (And.intro rfl (And.intro rfl (And.intro rfl (And.intro rfl (And.intro rfl (And.intro rfl (trivial)))))))))))))) (permI [] rfl) (fun _ h => nomatch h) (fun _ h => h)
    ·simp only [decide_eq_false_iff_not] at h121
     have hj3 : 3 = j := by omega
     subst hj3
     refine CJ_exit ?_
     refine QJ_then_exit ?_
     refine QJ_then_exit ?_
     refine QJ_in_exit ?_
     refine QJ_in_normal ?_
     refine QJ_then ?_
     refine CJ_reg ?_
     refine LJ_y rfl rfl (YJ_bin rfl rfl (iop_add (by omega))) ?_
     refine LJ_y rfl rfl (YJ_move rfl) ?_
     refine LJ_nil ?_
     refine QJ_roundF (F := fun (i : Nat × Nat × MapI × Nat) => ⟨[(1, .int .i64 (H : Int)), (2, .int .u32 v), (3, .int .u32 fa), (4, .pointer (some ⟨b1, 0, none⟩)), (10, .slice A0 (gPts W H).length c0), (13, .slice TA (gTris W H (bitN v)).length cT), (22, .map (some fm)), (23, .int .i64 (i.2.1 : Nat)), (114, .slice TA (gTris W H (bitN v)).length cT), (115, .int .i64 ((gTris W H (bitN v)).length : Nat)), (116, .int .i64 (i.1 : Nat))], [mapR fm fK gI i.2.2.1 i.2.2.2], []⟩) (I := fun (i : Nat × Nat × MapI × Nat) => i.1 ≤ (gTris W H (bitN v)).length ∧ (fa = 0 → i.2.2.1 = []) ∧ i.2.1 ≤ 3 * i.1) (m := fun (i : Nat × Nat × MapI × Nat) => (gTris W H (bitN v)).length - i.1) (i := (k, n, F, cF)) ((k + 1, n1, F1, cF1)) (μd := [_]) ⟨by omega, hF1, by dsimp only; omega⟩ (by dsimp only; omega) (And.intro rfl (And.intro rfl (And.intro rfl (And.intro rfl (And.intro rfl (And.intro rfl (And.intro rfl (And.intro rfl (And.intro rfl (And.intro rfl (And.intro rfl (trivial)))))))))))) (permI [] rfl) (fun _ h => nomatch h) (fun _ h => h)
   ·simp only [decide_eq_false_iff_not] at h117
    refine CJ_exit ?_
    refine QJ_then_exit ?_
    refine QJ_then_exit ?_
    refine QJ_in_exit ?_
    refine QJ_then ?_
    refine CJ_seq ?_
    obtain ⟨a, b, c, rest, hT, hrl, hvv, ha, hb, hc, hA⟩ := g_shape hW hH (bitN v)
    have hgp := gPts_ok hW hH
    have hP : ∀ j, j < (gPts W H).length → P2 ((gPts W H).getD j (0, 0)).1 ((gPts W H).getD j (0, 0)).2 := by
     intro j hj
     have := hgp.2 ((gPts W H).getD j (0, 0)) (by rw [List.getD_eq_getElem?_getD, List.getElem?_eq_getElem hj]; exact List.getElem_mem hj)
     exact ⟨⟨by omega, by omega⟩, ⟨by omega, by omega⟩⟩
    have hv1 : ∀ x, x ∈ [(a, b, c)] → x.1 < (gPts W H).length ∧ x.2.1 < (gPts W H).length ∧ x.2.2 < (gPts W H).length := by
     intro x hx
     rw [List.mem_singleton] at hx
     subst hx
     exact ⟨ha, hb, hc⟩
    have hvr : ∀ x, x ∈ rest → x.1 < ((gPts W H).length : Int) ∧ x.2.1 < ((gPts W H).length : Int) ∧ x.2.2 < ((gPts W H).length : Int) := fun x hx => hvv x (by rw [hT]; exact .tail _ hx)
    have hgr : gridR F W H (bitN v) = buildR F (gPts W H) a b c (((a : Int), (b : Int), (c : Int)) :: rest) := by unfold gridR gHead; rw [hT]; rfl
    have hgpl := hgp.1
    rw [hT]
    refine CJ_freezeK 0 rfl ?_
    show CJ _ _ _ _ (_) _
    refine CJ_reg ?_
    refine LJ_y rfl rfl (YJ_move rfl) ?_
    refine LJ_y rfl rfl (YJ_move rfl) ?_
    refine LJ_y rfl rfl (YJ_move rfl) ?_
    refine LJ_callP (μ1 := []) (μr := []) (permI [] rfl) rfl rfl rfl rfl rfl (build_c (F := F) (a := a) (b := b) (c := c) (rest := rest) (pts := gPts W H) (by omega) (by omega) hv1 hvr hP hA) (AllIn.sub (And.intro m2 (And.intro m1 (And.intro m0 trivial)))) ?_
    rintro ⟨B9, border⟩ hB9
    show LJ _ _ _ _ _ (_ :: _) _
    refine LJ_y rfl rfl (YJ_move rfl) ?_
    refine LJ_y rfl rfl (YJ_assign rfl) ?_
    refine LJ_y rfl rfl (YJ_assign rfl) ?_
    refine LJ_nil ?_
    refine QJ_then ?_
    refine CJ_ret ?_
    skip
    refine QJ_fin (.inl rfl) (μ' := [_]) (μr := []) (φ' := [sliceR 3 TA (((a : Int), (b : Int), (c : Int)) :: rest).length (t3Cells (((a : Int), (b : Int), (c : Int)) :: rest))]) (res_tmp2 rfl rfl rfl) (permI [] rfl) (AllIn.sub (And.intro m1 trivial)) ?_
    rw [← hT, ← hgr] at *
    exact ⟨(B9, F, border, TA, cT), ⟨hF, hB9⟩, rfl, rfl, rfl⟩
end Go.Proofs.Ytbanlhlggkdanaa
namespace Go.Proofs.Ytbanlhlggkdanaa
open Go.RowKit
section
variable {κ ν : Type} [DecidableEq κ]
theorem mfind_succ {k : κ} : ∀ (l : List (κ × ν × Nat)) (b : Nat), mfind k l (b + 1) = (mfind k l b).map (fun p => (p.1 + 1, p.2))
 | [], b => rfl
 | e :: r, b => by
  unfold mfind
  split
  ·rfl
  ·exact mfind_succ r (b + 1)
theorem mget_nil {k : κ} : mget k ([] : List (κ × ν × Nat)) = none := rfl
theorem mget_cons {k : κ} {e : κ × ν × Nat} {l : List (κ × ν × Nat)} : mget k (e :: l) = if k = e.1 then some e.2.1 else mget k l := by
 unfold mget
 rw [mfind]
 by_cases h : k = e.1
 ·rw [if_pos h, if_pos h]; rfl
 ·rw [if_neg h, if_neg h, mfind_succ]; cases mfind k l 0 <;> rfl
theorem mput_nil {k : κ} {v : ν} {c : Nat} : mput k v ([] : List (κ × ν × Nat)) c = [(k, v, c)] := rfl
theorem mput_cons {k : κ} {v : ν} {e : κ × ν × Nat} {l : List (κ × ν × Nat)} {c : Nat} : mput k v (e :: l) c = if k = e.1 then (e.1, v, e.2.2) :: l else e :: mput k v l c := by
 unfold mput
 rw [mfind]
 by_cases h : k = e.1
 ·rw [if_pos h, if_pos h]; rfl
 ·rw [if_neg h, if_neg h, mfind_succ]; cases mfind k l 0 <;> rfl
theorem mdel_cons {k : κ} {e : κ × ν × Nat} {l : List (κ × ν × Nat)} : mdel k (e :: l) = if k = e.1 then l else e :: mdel k l := by
 unfold mdel
 rw [mfind]
 by_cases h : k = e.1
 ·rw [if_pos h, if_pos h]; rfl
 ·rw [if_neg h, if_neg h, mfind_succ]; cases mfind k l 0 <;> rfl
theorem mget_mput {k k' : κ} {v : ν} {c : Nat} : ∀ {l : List (κ × ν × Nat)}, mget k' (mput k v l c) = if k' = k then some v else mget k' l
 | [] => by rw [mput_nil, mget_cons, mget_nil]
 | e :: l => by
  rw [mput_cons]
  by_cases h : k = e.1
  ·rw [if_pos h, mget_cons, mget_cons, ← h]
   by_cases h2 : k' = k <;> simp [h2]
  ·rw [if_neg h, mget_cons, mget_cons, mget_mput]
   by_cases h2 : k' = e.1
   ·subst h2; rw [if_pos rfl, if_pos rfl, if_neg (fun q => h q.symm)]
   ·rw [if_neg h2, if_neg h2]
theorem mget_mdel_ne {k k' : κ} (h : k' ≠ k) : ∀ {l : List (κ × ν × Nat)}, mget k' (mdel k l) = mget k' l
 | [] => rfl
 | e :: l => by
  rw [mdel_cons]
  by_cases h1 : k = e.1
  ·rw [if_pos h1, mget_cons, if_neg (fun q => h (q.trans h1.symm))]
  ·rw [if_neg h1, mget_cons, mget_cons, mget_mdel_ne h]
theorem mget_none {k : κ} : ∀ {l : List (κ × ν × Nat)}, ¬ k ∈ l.map (·.1) → mget k l = none
 | [], _ => rfl
 | e :: l, h => by
  rw [List.map_cons, List.mem_cons, not_or] at h
  rw [mget_cons, if_neg h.1]; exact mget_none h.2
theorem mget_mdel_eq {k : κ} : ∀ {l : List (κ × ν × Nat)}, (l.map (·.1)).Nodup → mget k (mdel k l) = none
 | [], _ => rfl
 | e :: l, h => by
  rw [List.map_cons, List.nodup_cons] at h
  rw [mdel_cons]
  by_cases h1 : k = e.1
  ·rw [if_pos h1]; exact mget_none (h1 ▸ h.1)
  ·rw [if_neg h1, mget_cons, if_neg h1]; exact mget_mdel_eq h.2
theorem mdel_keys {k : κ} {l : List (κ × ν × Nat)} (h : (l.map (·.1)).Nodup) : ((mdel k l).map (·.1)).Nodup := by
 unfold mdel
 split
 ·exact h.sublist (List.Sublist.map _ (List.eraseIdx_sublist _ _))
 ·exact h
theorem mput_keys {k : κ} {v : ν} {c : Nat} : ∀ {l : List (κ × ν × Nat)}, (l.map (·.1)).Nodup → ((mput k v l c).map (·.1)).Nodup
 | [], _ => by rw [mput_nil]; simp
 | e :: l, h => by
  rw [mput_cons]
  by_cases h1 : k = e.1
  ·rw [if_pos h1]; exact h
  ·rw [if_neg h1]
   rw [List.map_cons, List.nodup_cons] at h ⊢
   refine ⟨fun q => ?_, mput_keys h.2⟩
   obtain ⟨e', he', q2⟩ := List.mem_map.1 q
   rcases mput_key he' with q3 | ⟨e2, q3, q4⟩
   ·exact h1 (q3.symm.trans q2)
   ·exact h.1 (List.mem_map.2 ⟨e2, q3, q4.trans q2⟩)
theorem mget_some_mem {k : κ} {v : ν} {l : List (κ × ν × Nat)} (h : mget k l = some v) : k ∈ l.map (·.1) := by
 obtain ⟨e, h1, h2, _⟩ := mget_mem h
 exact List.mem_map.2 ⟨e, h1, h2⟩
theorem mget_of_mem : ∀ {l : List (κ × ν × Nat)} {e : κ × ν × Nat}, (l.map (·.1)).Nodup → e ∈ l → mget e.1 l = some e.2.1
 | x :: l, e, hn, h => by
  rw [List.map_cons, List.nodup_cons] at hn
  rw [mget_cons]
  rcases List.mem_cons.1 h with rfl | h
  ·rw [if_pos rfl]
  ·rw [if_neg (fun q : e.1 = x.1 => hn.1 (q ▸ List.mem_map.2 ⟨e, h, rfl⟩))]; exact mget_of_mem hn.2 h
end
def vw (l : List Tr) (q : Nat) : Option (Int × Int × Int) := l[q]?.map fun t => (t.v0, t.v1, t.v2)
def nb (l : List Tr) (q k : Nat) : Option Int := l[q]?.map fun t => t.n k
def rv (v : Int × Int × Int) : Prop := 0 ≤ v.1 ∧ 0 ≤ v.2.1 ∧ 0 ≤ v.2.2
instance (v : Int × Int × Int) : Decidable (rv v) := inferInstanceAs (Decidable (_ ∧ _))
theorem setN_v (t : Tr) (i : Nat) (u : Int) : (t.setN i u).v0 = t.v0 ∧ (t.setN i u).v1 = t.v1 ∧ (t.setN i u).v2 = t.v2 := by
 unfold Tr.setN
 (repeat' split) <;> exact ⟨rfl, rfl, rfl⟩
theorem setF_v (t : Tr) (i : Nat) (f : Bool) : (t.setF i f).v0 = t.v0 ∧ (t.setF i f).v1 = t.v1 ∧ (t.setF i f).v2 = t.v2 := by
 unfold Tr.setF
 (repeat' split) <;> exact ⟨rfl, rfl, rfl⟩
theorem setF_n (t : Tr) (i : Nat) (f : Bool) (k : Nat) : (t.setF i f).n k = t.n k := by
 unfold Tr.setF
 (repeat' split) <;> rfl
theorem setN_n (t : Tr) {i k : Nat} (u : Int) (hi : i < 3) (hk : k < 3) : (t.setN i u).n k = if k = i then u else t.n k := by
 match i, hi, k, hk with
 | 0, _, 0, _ => rfl
 | 0, _, 1, _ => rfl
 | 0, _, 2, _ => rfl
 | 1, _, 0, _ => rfl
 | 1, _, 1, _ => rfl
 | 1, _, 2, _ => rfl
 | 2, _, 0, _ => rfl
 | 2, _, 1, _ => rfl
 | 2, _, 2, _ => rfl
theorem vw_modify (l : List Tr) (i : Nat) (f : Tr → Tr) (hf : ∀ t, (f t).v0 = t.v0 ∧ (f t).v1 = t.v1 ∧ (f t).v2 = t.v2) (q : Nat) : vw (l.modify i f) q = vw l q := by
 unfold vw
 rw [List.getElem?_modify]
 cases l[q]? with
 | none => rfl
 | some t =>
  by_cases h : i = q
  ·simp [h, (hf t).1, (hf t).2.1, (hf t).2.2]
  ·simp [h]
theorem vw_link (M : MD) (t i u j : Nat) (f : Bool) (q : Nat) : vw (M.link t i u j f).tris q = vw M.tris q := by
 unfold MD.link
 dsimp only
 rw [vw_modify _ _ _ (fun x => setF_v x _ _), vw_modify _ _ _ (fun x => setF_v x _ _), vw_modify _ _ _ (fun x => setN_v x _ _), vw_modify _ _ _ (fun x => setN_v x _ _)]
theorem nb_modF (l : List Tr) (i j : Nat) (f : Bool) (q k : Nat) : nb (l.modify i (·.setF j f)) q k = nb l q k := by
 unfold nb
 rw [List.getElem?_modify]
 cases l[q]? with
 | none => rfl
 | some t => by_cases h : i = q <;> simp [h, setF_n]
theorem nb_modN (l : List Tr) {i j : Nat} (u : Int) {q k : Nat} (hj : j < 3) (hk : k < 3) : nb (l.modify i (·.setN j u)) q k = if q = i ∧ k = j then (nb l q k).map (fun _ => u) else nb l q k := by
 unfold nb
 rw [List.getElem?_modify]
 cases l[q]? with
 | none => simp
 | some t =>
  by_cases h : i = q
  ·subst h
   by_cases h2 : k = j
   ·subst h2; simp [setN_n t u hk hk]
   ·simp [setN_n t u hj hk, h2]
  ·have h' : ¬ q = i := fun e => h e.symm
   simp [h, h']
theorem nb_link (M : MD) {t i u j : Nat} (f : Bool) {q k : Nat} (hi : i < 3) (hj : j < 3) (hk : k < 3) : nb (M.link t i u j f).tris q k = if q = u ∧ k = j then (nb M.tris q k).map (fun _ => (t : Int)) else if q = t ∧ k = i then (nb M.tris q k).map (fun _ => (u : Int)) else nb M.tris q k := by
 unfold MD.link
 dsimp only
 rw [nb_modF, nb_modF, nb_modN _ _ hj hk, nb_modN _ _ hi hk]
 by_cases h1 : q = u ∧ k = j
 ·rw [if_pos h1, if_pos h1]
  by_cases h2 : q = t ∧ k = i
  ·rw [if_pos h2]; cases nb M.tris q k <;> rfl
  ·rw [if_neg h2]
 ·rw [if_neg h1, if_neg h1]
theorem vw_make (M : MD) (a b c : Int) (hf : ∀ k, k ∈ M.free → 0 ≤ k ∧ k < M.tris.length) (q : Nat) : vw (M.make a b c).tris q = if q = M.nextN.toNat then some (a, b, c) else vw M.tris q := by
 unfold vw MD.make MD.nextN
 dsimp only
 cases h : M.free.getLast? with
 | none =>
  dsimp only
  rw [List.getElem?_append]
  by_cases h1 : q < M.tris.length
  ·rw [if_pos h1, if_neg (by simp; omega)]
  ·rw [if_neg h1]
   by_cases h2 : q = M.tris.length
   ·subst h2; simp [Tr.new]
   ·rw [List.getElem?_eq_none (by simp; omega), if_neg (by simpa using h2), List.getElem?_eq_none (by omega)]
 | some k =>
  dsimp only
  have hk := hf k (List.mem_of_getLast? h)
  rw [List.getElem?_set]
  by_cases h2 : k.toNat = q
  ·rw [if_pos h2, if_pos h2.symm, if_pos (by omega)]; rfl
  ·rw [if_neg h2, if_neg (fun e => h2 e.symm)]
theorem nb_make (M : MD) (a b c : Int) (q j : Nat) (hq : q ≠ M.nextN.toNat) : nb (M.make a b c).tris q j = nb M.tris q j := by
 unfold nb MD.make
 unfold MD.nextN at hq
 dsimp only
 cases h : M.free.getLast? with
 | none =>
  rw [h] at hq
  dsimp only at hq ⊢
  rw [List.getElem?_append]
  by_cases h1 : q < M.tris.length
  ·rw [if_pos h1]
  ·rw [if_neg h1, List.getElem?_eq_none (by simp at hq ⊢; omega), List.getElem?_eq_none (by omega)]
 | some k =>
  rw [h] at hq
  dsimp only at hq ⊢
  rw [List.getElem?_set, if_neg (fun e => hq e.symm)]
end Go.Proofs.Ytbanlhlggkdanaa
namespace Go.Proofs.Ytbanlhlggkdanaa
open Go.RowKit
def kv (v : Int × Int × Int) (k : Nat) : Int × Int := (at3 v.1 v.2.1 v.2.2 ((k + 1) % 3), at3 v.1 v.2.1 v.2.2 ((k + 2) % 3))
structure GB (T0 : MD) (L0 : MapO) : Prop where
 fr : ∀ k, k ∈ T0.free → 0 ≤ k ∧ k < T0.tris.length
 frr : ∀ k v, k ∈ T0.free → vw T0.tris k.toNat = some v → ¬ rv v
 fn : T0.free.Nodup
 kn : (L0.map (·.1)).Nodup
 ed : ∀ e, e ∈ L0 → 0 ≤ e.1.1 ∧ 0 ≤ e.1.2 ∧ 0 ≤ e.2.1.1 ∧ 0 ≤ e.2.1.2 ∧ e.2.1.2 < 3 ∧ ∃ v, vw T0.tris e.2.1.1.toNat = some v ∧ rv v ∧ kv v e.2.1.2.toNat = e.1
 gone : ∀ q v, vw T0.tris q = some v → ¬ rv v → (q : Int) ∈ T0.free
 uq : ∀ q v k q' v' k', vw T0.tris q = some v → rv v → k < 3 → vw T0.tris q' = some v' → rv v' → k' < 3 → kv v k = kv v' k' → q = q' ∧ k = k'
structure GI (T0 : MD) (L0 P : MapO) (s : BS) : Prop where
 pts : s.M.pts = T0.pts
 fr : ∀ k, k ∈ s.M.free → 0 ≤ k ∧ k < s.M.tris.length
 frr : ∀ k v, k ∈ s.M.free → vw s.M.tris k.toNat = some v → ¬ rv v
 fn : s.M.free.Nodup
 sub : ∀ e, e ∈ P → e ∈ L0
 rl : ∀ q v, rv v → (vw s.M.tris q = some v ↔ vw T0.tris q = some v)
 kn : (s.L.map (·.1)).Nodup
 mp : ∀ a b, 0 ≤ a → 0 ≤ b → mget (a, b) s.L = if (a, b) ∈ P.map (·.1) then none else mget (a, b) L0
 gm : ∀ e, e ∈ s.L → ¬ (0 ≤ e.1.1 ∧ 0 ≤ e.1.2) → 0 ≤ e.2.1.2 ∧ e.2.1.2 < 3 ∧ ∀ v, vw s.M.tris e.2.1.1.toNat = some v → ¬ rv v
 nr : ∀ q v k, vw T0.tris q = some v → rv v → k < 3 → (¬ kv v k ∈ P.map (·.1) → nb s.M.tris q k = nb T0.tris q k) ∧ (kv v k ∈ P.map (·.1) → ∃ u : Nat, nb s.M.tris q k = some (u : Int) ∧ vw s.M.tris u = some ((kv v k).2, (kv v k).1, -1) ∧ ¬ (u : Int) ∈ s.M.free)
 gh : ∀ q v, vw s.M.tris q = some v → ¬ rv v → (q : Int) ∈ s.M.free ∨ ∃ e, e ∈ P ∧ v = (e.1.2, e.1.1, -1) ∧ nb s.M.tris e.2.1.1.toNat e.2.1.2.toNat = some (q : Int)
theorem GI.start {T0 : MD} {L0 : MapO} {c : Nat} (h : GB T0 L0) : GI T0 L0 [] ⟨T0, L0, c⟩ where
 pts := rfl
 fr := h.fr
 frr := h.frr
 fn := h.fn
 sub := fun _ h => nomatch h
 rl := fun _ _ _ => Iff.rfl
 kn := h.kn
 mp := fun a b _ _ => by simp
 gm := fun e he hn => absurd ⟨(h.ed e he).1, (h.ed e he).2.1⟩ hn
 nr := fun q v k _ _ _ => ⟨fun _ => rfl, fun q => by simp at q⟩
 gh := fun q v h1 h2 => .inl (h.gone q v h1 h2)
theorem vw_nb {l : List Tr} {q k : Nat} {v : Int × Int × Int} (h : vw l q = some v) : ∃ x, nb l q k = some x := by
 unfold vw at h; unfold nb
 cases hq : l[q]? with
 | none => rw [hq] at h; cases h
 | some t => exact ⟨_, rfl⟩
theorem vw_lt {l : List Tr} {q : Nat} {v : Int × Int × Int} (h : vw l q = some v) : q < l.length := by
 unfold vw at h
 rcases Nat.lt_or_ge q l.length with h1 | h1
 ·exact h1
 ·rw [List.getElem?_eq_none h1] at h; cases h
theorem joinG {F : MapI} {u : Nat} {v0 v1 v2 : Int} {s : BS} {i : Nat} (hi : i < 3) (hk : ¬ (0 ≤ at3 v0 v1 v2 ((i + 1) % 3) ∧ 0 ≤ at3 v0 v1 v2 ((i + 2) % 3))) (kn : (s.L.map (·.1)).Nodup)
  (gm : ∀ e, e ∈ s.L → ¬ (0 ≤ e.1.1 ∧ 0 ≤ e.1.2) → 0 ≤ e.2.1.2 ∧ e.2.1.2 < 3 ∧ ∀ v, vw s.M.tris e.2.1.1.toNat = some v → ¬ rv v) (hu : ∀ v, vw s.M.tris u = some v → ¬ rv v) :
  (∀ q, vw (joinE F u v0 v1 v2 s i).M.tris q = vw s.M.tris q) ∧ (joinE F u v0 v1 v2 s i).M.free = s.M.free ∧ (joinE F u v0 v1 v2 s i).M.pts = s.M.pts ∧ (joinE F u v0 v1 v2 s i).M.tris.length = s.M.tris.length ∧
  (((joinE F u v0 v1 v2 s i).L).map (·.1)).Nodup ∧ (∀ a b, 0 ≤ a → 0 ≤ b → mget (a, b) (joinE F u v0 v1 v2 s i).L = mget (a, b) s.L) ∧
  (∀ e, e ∈ (joinE F u v0 v1 v2 s i).L → ¬ (0 ≤ e.1.1 ∧ 0 ≤ e.1.2) → 0 ≤ e.2.1.2 ∧ e.2.1.2 < 3 ∧ ∀ v, vw (joinE F u v0 v1 v2 s i).M.tris e.2.1.1.toNat = some v → ¬ rv v) ∧
  (∀ q v k, vw s.M.tris q = some v → rv v → k < 3 → nb (joinE F u v0 v1 v2 s i).M.tris q k = nb s.M.tris q k) := by
 unfold joinE
 cases hg : mget (at3 v0 v1 v2 ((i + 2) % 3), at3 v0 v1 v2 ((i + 1) % 3)) s.L with
 | none =>
  dsimp only
  refine ⟨fun _ => rfl, rfl, rfl, rfl, mput_keys kn, fun a b ha hb => ?_, fun e he hn => ?_, fun _ _ _ _ _ _ => rfl⟩
  ·rw [mget_mput, if_neg]
   intro q
   rw [Prod.mk.injEq] at q
   exact hk ⟨q.1 ▸ ha, q.2 ▸ hb⟩
  ·rcases mput_mem he with q | q
   ·rw [q]
    dsimp only
    exact ⟨Int.natCast_nonneg i, by omega, fun v hv => hu v (by simpa using hv)⟩
   ·exact gm e q hn
 | some x =>
  dsimp only
  obtain ⟨e, he1, he2, he3⟩ := mget_mem hg
  obtain ⟨g1, g2, g3⟩ := gm e he1 (by rw [he2]; exact fun q => hk ⟨q.2, q.1⟩)
  rw [he3] at g1 g2 g3
  refine ⟨fun q => vw_link .., rfl, rfl, link_len .., mdel_keys kn, fun a b ha hb => ?_, fun e he hn => ?_, fun q v k hq hv hk3 => ?_⟩
  ·rw [mget_mdel_ne]
   intro q
   rw [Prod.mk.injEq] at q
   exact hk ⟨q.2 ▸ hb, q.1 ▸ ha⟩
  ·have := gm e (mdel_mem he) hn
   exact ⟨this.1, this.2.1, fun v hv => this.2.2 v (by rw [vw_link] at hv; exact hv)⟩
  ·rw [nb_link _ _ hi (by omega) hk3, if_neg, if_neg]
   ·rintro ⟨rfl, _⟩; exact hu v hq hv
   ·rintro ⟨rfl, _⟩; exact g3 v hq hv
theorem make_len_ge (M : MD) (a b c : Int) : M.tris.length ≤ (M.make a b c).tris.length := by
 unfold MD.make
 dsimp only
 split <;> simp
theorem next_or {M : MD} (fr : ∀ k, k ∈ M.free → 0 ≤ k ∧ k < M.tris.length) : (M.nextN ∈ M.free ∧ 0 ≤ M.nextN ∧ (∀ k, k ∈ M.free → k = M.nextN ∨ k ∈ M.free.dropLast)) ∨ (M.free = [] ∧ M.nextN = M.tris.length) := by
 unfold MD.nextN
 cases h : M.free.getLast? with
 | none => exact .inr ⟨List.getLast?_eq_none_iff.1 h, rfl⟩
 | some k =>
  have hm := List.mem_of_getLast? h
  refine .inl ⟨hm, (fr k hm).1, fun j hj => ?_⟩
  have hne : M.free ≠ [] := by intro e; rw [e] at hm; cases hm
  rw [← List.dropLast_concat_getLast hne] at hj
  rcases List.mem_append.1 hj with q | q
  ·exact .inr q
  ·rw [List.mem_singleton] at q
   rw [List.getLast?_eq_some_getLast hne] at h
   exact .inl (q.trans (Option.some.inj h))
theorem next_drop {M : MD} (fn : M.free.Nodup) : ¬ M.nextN ∈ M.free.dropLast ∨ M.free = [] := by
 by_cases hne : M.free = []
 ·exact .inr hne
 ·refine .inl ?_
  unfold MD.nextN
  rw [List.getLast?_eq_some_getLast hne]
  dsimp only
  rw [← List.dropLast_concat_getLast hne, List.nodup_append] at fn
  intro q
  exact fn.2.2 _ q _ (List.mem_singleton.2 rfl) rfl
theorem GI.step {T0 : MD} {L0 P : MapO} {s : BS} {F : MapI} (hB : GB T0 L0) (h : GI T0 L0 P s) {e : (Int × Int) × (Int × Int) × Nat} (he : e ∈ L0) (hn : ¬ e.1 ∈ P.map (·.1)) : GI T0 L0 (P ++ [e]) (stepG F s e) := by
 obtain ⟨⟨a, b⟩, ⟨t9, k9⟩, bo⟩ := e
 obtain ⟨ha, hb, ht, hk0, hk3, ve, hv1, hv2, hv3⟩ := hB.ed _ he
 dsimp only at ha hb ht hk0 hk3 hv1 hv2 hv3 hn
 have hkk : k9.toNat < 3 := by omega
 have hmg : mget (a, b) L0 = some (t9, k9) := mget_of_mem hB.kn he
 have hu0 : ∀ v, vw s.M.tris s.M.nextN.toNat = some v → ¬ rv v := fun v hv => by
  rcases next_or h.fr with ⟨q, _, _⟩ | ⟨_, q⟩
  ·exact h.frr _ v q hv
  ·have := vw_lt hv
   omega
 have hg : ¬ rv (b, a, -1) := fun q => absurd (show (0 : Int) ≤ -1 from q.2.2) (by decide)
 have w0 := vw_make s.M b a (-1) h.fr
 have hlen0 := make_len_ge s.M b a (-1)
 have n0 : ∀ q v k, vw s.M.tris q = some v → rv v → nb (s.M.make b a (-1)).tris q k = nb s.M.tris q k := fun q v k hq hv => nb_make _ _ _ _ _ _ (fun e : q = s.M.nextN.toNat => hu0 v (e ▸ hq) hv)
 have hreal0 : ∀ q v, vw s.M.tris q = some v → rv v → vw (s.M.make b a (-1)).tris q = some v := fun q v hq hv => by
  rw [w0, if_neg (fun e : q = s.M.nextN.toNat => hu0 v (e ▸ hq) hv)]; exact hq
 generalize hS0 : (⟨s.M.make b a (-1), s.L, s.c⟩ : BS) = s0
 have e0 : s0.M = s.M.make b a (-1) := by rw [← hS0]
 have l0 : s0.L = s.L := by rw [← hS0]
 have f0 : s0.M.free = s.M.free.dropLast := by rw [e0]; rfl
 have p0 : s0.M.pts = s.M.pts := by rw [e0]; rfl
 rw [← e0] at w0 hlen0 n0 hreal0
 have gm0 : ∀ e, e ∈ s0.L → ¬ (0 ≤ e.1.1 ∧ 0 ≤ e.1.2) → 0 ≤ e.2.1.2 ∧ e.2.1.2 < 3 ∧ ∀ v, vw s0.M.tris e.2.1.1.toNat = some v → ¬ rv v := fun e' he' hn' => by
  obtain ⟨q1, q2, q3⟩ := h.gm e' (l0 ▸ he') hn'
  refine ⟨q1, q2, fun v hv => ?_⟩
  rw [w0] at hv
  split at hv
  ·cases hv; exact hg
  ·exact q3 v hv
 have u0 : ∀ v, vw s0.M.tris s.M.nextN.toNat = some v → ¬ rv v := fun v hv => by
  rw [w0, if_pos rfl] at hv; cases hv; exact hg
 obtain ⟨w1, f1, p1, ln1, kn1, mp1, gm1, n1⟩ := joinG (F := F) (u := s.M.nextN.toNat) (v0 := b) (v1 := a) (v2 := -1) (s := s0) (i := 0) (by decide) (fun q => absurd (show (0 : Int) ≤ -1 from q.2) (by decide)) (by rw [l0]; exact h.kn) gm0 u0
 have hst : stepG F s ((a, b), (t9, k9), bo) = joinE F s.M.nextN.toNat b a (-1) (joinE F s.M.nextN.toNat b a (-1) (joinE F s.M.nextN.toNat b a (-1) s0 0) 1) 2 := by rw [← hS0]; rfl
 rw [hst]
 generalize joinE F s.M.nextN.toNat b a (-1) s0 0 = s1 at *
 obtain ⟨w2, f2, p2, ln2, kn2, mp2, gm2, n2⟩ := joinG (F := F) (u := s.M.nextN.toNat) (v0 := b) (v1 := a) (v2 := -1) (s := s1) (i := 1) (by decide) (fun q => absurd (show (0 : Int) ≤ -1 from q.1) (by decide)) kn1 gm1 (fun v hv => u0 v (by rw [← w1]; exact hv))
 generalize joinE F s.M.nextN.toNat b a (-1) s1 1 = s2 at *
 have hg2 : mget (a, b) s2.L = some (t9, k9) := by rw [mp2 a b ha hb, mp1 a b ha hb, l0, h.mp a b ha hb, if_neg hn, hmg]
 have h3 : joinE F s.M.nextN.toNat b a (-1) s2 2 = ⟨s2.M.link s.M.nextN.toNat 2 t9.toNat k9.toNat (flt F b a), mdel (a, b) s2.L, s2.c⟩ := by
  unfold joinE
  show (match mget (a, b) s2.L with | some x => _ | none => _) = _
  rw [hg2]
  rfl
 rw [h3]
 clear h3 hst
 have wS : ∀ q, vw (s2.M.link s.M.nextN.toNat 2 t9.toNat k9.toNat (flt F b a)).tris q = if q = s.M.nextN.toNat then some (b, a, -1) else vw s.M.tris q := fun q => by rw [vw_link, w2, w1, w0]
 have hrs : ∀ q v, vw T0.tris q = some v → rv v → vw s.M.tris q = some v := fun q v hq hv => (h.rl q v hv).2 hq
 have hne : ∀ q v, vw s.M.tris q = some v → rv v → q ≠ s.M.nextN.toNat := fun q v hq hv e => hu0 v (e ▸ hq) hv
 have nS : ∀ q v k, vw s.M.tris q = some v → rv v → k < 3 → nb (s2.M.link s.M.nextN.toNat 2 t9.toNat k9.toNat (flt F b a)).tris q k = if q = t9.toNat ∧ k = k9.toNat then some ((s.M.nextN.toNat : Nat) : Int) else nb s.M.tris q k := fun q v k hq hv hk => by
  have z1 : nb s2.M.tris q k = nb s.M.tris q k := by
   rw [n2 q v k (by rw [w1]; exact hreal0 q v hq hv) hv hk, n1 q v k (hreal0 q v hq hv) hv hk, n0 q v k hq hv]
  rw [nb_link _ _ (by decide) hkk hk, z1]
  obtain ⟨x, hx⟩ := vw_nb (k := k) hq
  by_cases q1 : q = t9.toNat ∧ k = k9.toNat
  ·rw [if_pos q1, if_pos q1, hx]; rfl
  ·rw [if_neg q1, if_neg q1, if_neg (fun q2 => hne q v hq hv q2.1)]
 have fS : (s2.M.link s.M.nextN.toNat 2 t9.toNat k9.toNat (flt F b a)).free = s.M.free.dropLast := by
  show s2.M.free = _
  rw [f2, f1, f0]
 have lS : s.M.tris.length ≤ (s2.M.link s.M.nextN.toNat 2 t9.toNat k9.toNat (flt F b a)).tris.length := by rw [link_len, ln2, ln1]; exact hlen0
 have ufr : ¬ ((s.M.nextN.toNat : Nat) : Int) ∈ s.M.free.dropLast := by
  rcases next_or h.fr with ⟨_, q0, _⟩ | ⟨q, _⟩
  ·rw [Int.toNat_of_nonneg q0]
   rcases next_drop h.fn with q | q
   ·exact q
   ·rw [q]; simp
  ·rw [q]; simp
 have hvt := hrs _ _ hv1 hv2
 refine ⟨?_, fun k hk => ?_, fun k v hk hv => ?_, ?_, fun e' he' => ?_, fun q v hv => ?_, mdel_keys kn2, fun a' b' ha' hb' => ?_, fun e' he' hn' => ?_, fun q v k hq hv hk => ⟨fun hk' => ?_, fun hk' => ?_⟩, fun q v hq hv => ?_⟩
 ·show s2.M.pts = _
  rw [p2, p1, p0, h.pts]
 ·dsimp only at hk ⊢
  rw [fS] at hk
  have := h.fr k (List.dropLast_subset _ hk)
  omega
 ·dsimp only at hk hv
  rw [fS] at hk
  rw [wS] at hv
  split at hv
  ·cases hv; exact hg
  ·exact h.frr k v (List.dropLast_subset _ hk) hv
 ·dsimp only
  rw [fS]
  exact h.fn.sublist (List.dropLast_sublist _)
 ·rcases List.mem_append.1 he' with q | q
  ·exact h.sub e' q
  ·rw [List.mem_singleton] at q; rw [q]; exact he
 ·dsimp only
  rw [wS]
  by_cases q1 : q = s.M.nextN.toNat
  ·rw [if_pos q1]
   constructor
   ·intro q2; cases q2; exact absurd hv hg
   ·intro q2
    have := (h.rl q v hv).2 q2
    exact absurd hv (hu0 v (q1 ▸ this))
  ·rw [if_neg q1]; exact h.rl q v hv
 ·dsimp only
  by_cases q1 : (a', b') = (a, b)
  ·rw [q1, mget_mdel_eq kn2, if_pos]
   simp
  ·rw [mget_mdel_ne q1, mp2 a' b' ha' hb', mp1 a' b' ha' hb', l0, h.mp a' b' ha' hb']
   by_cases q2 : (a', b') ∈ P.map (·.1)
   ·rw [if_pos q2, if_pos (by rw [List.map_append]; exact List.mem_append_left _ q2)]
   ·rw [if_neg q2, if_neg]
    rw [List.map_append, List.mem_append]
    rintro (q3 | q3)
    ·exact q2 q3
    ·rw [List.map_cons, List.map_nil, List.mem_singleton] at q3; exact q1 q3
 ·obtain ⟨q1, q2, q3⟩ := gm2 e' (mdel_mem he') hn'
  exact ⟨q1, q2, fun v hv => q3 v (by dsimp only at hv; rw [vw_link] at hv; exact hv)⟩
 ·dsimp only
  have hk1 : ¬ kv v k ∈ P.map (·.1) := fun q1 => hk' (by rw [List.map_append]; exact List.mem_append_left _ q1)
  rw [nS q v k (hrs q v hq hv) hv hk, if_neg]
  ·exact (h.nr q v k hq hv hk).1 hk1
  ·rintro ⟨rfl, rfl⟩
   rw [hv1] at hq
   cases hq
   exact hk' (by rw [List.map_append, hv3]; exact List.mem_append_right _ (.head _))
 ·dsimp only
  rw [nS q v k (hrs q v hq hv) hv hk]
  by_cases q1 : q = t9.toNat ∧ k = k9.toNat
  ·obtain ⟨rfl, rfl⟩ := q1
   rw [hv1] at hq
   cases hq
   refine ⟨s.M.nextN.toNat, if_pos ⟨rfl, rfl⟩, ?_, ?_⟩
   ·rw [wS, if_pos rfl, hv3]
   ·rw [fS]; exact ufr
  ·rw [if_neg q1]
   have hk1 : kv v k ∈ P.map (·.1) := by
    rw [List.map_append, List.mem_append] at hk'
    rcases hk' with q2 | q2
    ·exact q2
    ·rw [List.map_cons, List.map_nil, List.mem_singleton] at q2
     exact absurd (hB.uq q v k _ ve _ hq hv hk hv1 hv2 hkk (q2.trans hv3.symm)) q1
   obtain ⟨u', y1, y2, y3⟩ := (h.nr q v k hq hv hk).2 hk1
   refine ⟨u', y1, ?_, ?_⟩
   ·rw [wS, if_neg]
    ·exact y2
    ·intro q2
     rcases next_or h.fr with ⟨z1, z2, _⟩ | ⟨_, z1⟩
     ·exact y3 (by rw [q2, Int.toNat_of_nonneg z2]; exact z1)
     ·have := vw_lt y2
      omega
   ·rw [fS]; exact fun q2 => y3 (List.dropLast_subset _ q2)
 ·dsimp only at hq ⊢
  rw [wS] at hq
  by_cases q1 : q = s.M.nextN.toNat
  ·rw [if_pos q1] at hq
   cases hq
   refine .inr ⟨_, List.mem_append_right _ (.head _), rfl, ?_⟩
   dsimp only
   rw [nS _ ve _ hvt hv2 hkk, if_pos ⟨rfl, rfl⟩, q1]
  ·rw [if_neg q1] at hq
   rcases h.gh q v hq hv with q2 | ⟨e', z1, z2, z3⟩
   ·rw [fS]
    rcases next_or h.fr with ⟨_, y2, y3⟩ | ⟨y1, _⟩
    ·rcases y3 _ q2 with y4 | y4
     ·exact absurd (by omega) q1
     ·exact .inl y4
    ·rw [y1] at q2; cases q2
   ·refine .inr ⟨e', List.mem_append_left _ z1, z2, ?_⟩
    obtain ⟨_, _, x1, x2, x3, v', x4, x5, x6⟩ := hB.ed e' (h.sub e' z1)
    rw [nS _ v' _ (hrs _ _ x4 x5) x5 (by omega), if_neg]
    ·exact z3
    ·rintro ⟨y1, y2⟩
     rw [y1, hv1] at x4
     cases x4
     rw [y2, hv3] at x6
     exact hn (by rw [x6]; exact List.mem_map.2 ⟨e', z1, rfl⟩)
theorem GI.all {T0 : MD} {L0 : MapO} {F : MapI} (hB : GB T0 L0) : ∀ (r P : MapO) (s : BS), GI T0 L0 P s → (∀ e, e ∈ r → e ∈ L0) → ((P ++ r).map (·.1)).Nodup → GI T0 L0 (P ++ r) (r.foldl (stepG F) s)
 | [], P, s, h, _, _ => by rw [List.append_nil]; exact h
 | e :: r, P, s, h, hs, hn => by
  have h1 := GI.step (F := F) hB h (hs e (.head _)) (by
   intro q
   rw [List.map_append, List.nodup_append] at hn
   exact hn.2.2 _ q _ (List.mem_map.2 ⟨e, .head _, rfl⟩) rfl)
  have := GI.all (F := F) hB r (P ++ [e]) (stepG F s e) h1 (fun x hx => hs x (.tail _ hx)) (by rw [List.append_assoc]; exact hn)
  rw [List.append_assoc] at this
  exact this
end Go.Proofs.Ytbanlhlggkdanaa
namespace Go.Proofs.Ytbanlhlggkdanaa
open Go.RowKit
def hasV (t : Tr) (v : Int) : Prop := t.v0 = v ∨ t.v1 = v ∨ t.v2 = v
instance (t : Tr) (v : Int) : Decidable (hasV t v) := inferInstanceAs (Decidable (_ ∨ _))
def rStep (pts : List (Int × Int)) (p : Int × Int) (t : Tr) (s : Int × Int × Int) (k : Nat) : Int × Int × Int :=
 (if ptAt pts (t.v ((k + 1) % 3)) = p then t.v ((k + 1) % 3) else s.1,
  if edge pts t k p ∧ Btw p.1 p.2 (ptAt pts (t.v ((k + 1) % 3))).1 (ptAt pts (t.v ((k + 1) % 3))).2 (ptAt pts (t.v ((k + 2) % 3))).1 (ptAt pts (t.v ((k + 2) % 3))).2 then (min (t.v ((k + 1) % 3)) (t.v ((k + 2) % 3)), max (t.v ((k + 1) % 3)) (t.v ((k + 2) % 3))) else s.2)
def rTri (pts : List (Int × Int)) (p : Int × Int) (s : Bool × Int × Int × Int) (x : Nat × Tr) : Bool × Int × Int × Int :=
 (s.1 || decide (hld pts x.2 p), [0, 1, 2].foldl (rStep pts p x.2) s.2)
def rGhost (pts : List (Int × Int)) (p : Int × Int) (t : Tr) : Bool :=
 if t.v0 = -1 then decide (0 < A2 (ptAt pts t.v1).1 (ptAt pts t.v1).2 (ptAt pts t.v2).1 (ptAt pts t.v2).2 p.1 p.2)
 else if t.v1 = -1 then decide (0 < A2 (ptAt pts t.v2).1 (ptAt pts t.v2).2 (ptAt pts t.v0).1 (ptAt pts t.v0).2 p.1 p.2)
 else if t.v2 = -1 then decide (0 < A2 (ptAt pts t.v0).1 (ptAt pts t.v0).2 (ptAt pts t.v1).1 (ptAt pts t.v1).2 p.1 p.2)
 else false
def rEnd (pts : List (Int × Int)) (tris : List Tr) (p : Int × Int) (x : Pl) (t : Tr) (s : Bool × Int × Int × Int) : Bool :=
 if s.1 = false then (if x.1 = 3 ∧ ¬ isReal tris x.2.1 ∧ x.2.2.1 = 0 ∧ x.2.2.2 = 0 then rGhost pts p t else false)
 else if ¬ isReal tris x.2.1 then false
 else if 0 ≤ s.2.1 then decide (x.1 = 2 ∧ x.2.2.1 = s.2.1 ∧ x.2.2.2 = 0 ∧ hasV t s.2.1)
 else if ¬ (s.2.2.1 = 0 ∧ s.2.2.2 = 0) then decide (x.1 = 1 ∧ (x.2.2.1 = s.2.2.1 ∧ x.2.2.2 = s.2.2.2) ∧ hasV t x.2.2.1 ∧ hasV t x.2.2.2)
 else decide (x.1 = 0 ∧ x.2.2.1 = 0 ∧ x.2.2.2 = 0 ∧ 0 < A2 (ptAt pts t.v0).1 (ptAt pts t.v0).2 (ptAt pts t.v1).1 (ptAt pts t.v1).2 p.1 p.2 ∧ 0 < A2 (ptAt pts t.v1).1 (ptAt pts t.v1).2 (ptAt pts t.v2).1 (ptAt pts t.v2).2 p.1 p.2 ∧ 0 < A2 (ptAt pts t.v2).1 (ptAt pts t.v2).2 (ptAt pts t.v0).1 (ptAt pts t.v0).2 p.1 p.2)
def rght (pts : List (Int × Int)) (tris : List Tr) (p : Int × Int) (x : Pl) : Bool :=
 if x.2.1 < 0 then false else match tris[x.2.1.toNat]? with
 | none => false
 | some t => rEnd pts tris p x t ((reals tris).foldl (rTri pts p) (false, -1, 0, 0))
def gOk (pts : List (Int × Int)) (tris : List Tr) : Prop := ∀ t, t ∈ tris → (t.v0 = -1 → (0 ≤ t.v1 ∧ t.v1 < pts.length) ∧ 0 ≤ t.v2 ∧ t.v2 < pts.length) ∧ (t.v1 = -1 → (0 ≤ t.v2 ∧ t.v2 < pts.length) ∧ 0 ≤ t.v0 ∧ t.v0 < pts.length) ∧ (t.v2 = -1 → (0 ≤ t.v0 ∧ t.v0 < pts.length) ∧ 0 ≤ t.v1 ∧ t.v1 < pts.length)
theorem tm3 {k j : Nat} (hk : k < 3) (hj : j < 3) : ((k : Int) + (j : Int)).tmod 3 = (((k + j) % 3 : Nat) : Int) := by
 match k, hk, j, hj with
 | 0, _, 0, _ => rfl
 | 0, _, 1, _ => rfl
 | 0, _, 2, _ => rfl
 | 1, _, 0, _ => rfl
 | 1, _, 1, _ => rfl
 | 1, _, 2, _ => rfl
 | 2, _, 0, _ => rfl
 | 2, _, 1, _ => rfl
 | 2, _, 2, _ => rfl
theorem v_get {t : Tr} {j : Nat} (hj : j < 3) : (#[.int .i64 t.v0, .int .i64 t.v1, .int .i64 t.v2, .int .i64 t.n0, .int .i64 t.n1, .int .i64 t.n2, .bool t.f0, .bool t.f1, .bool t.f2] : Array Value)[0 + ((j : Nat) : Int).toNat * 1]? = some (.int .i64 (t.v j)) := by
 match j, hj with
 | 0, _ => rfl
 | 1, _ => rfl
 | 2, _ => rfl
theorem ok_v {t : Tr} {n j : Nat} (h : t.ok n) (hj : j < 3) : 0 ≤ t.v j ∧ t.v j < n := by
 obtain ⟨h0, h1, h2⟩ := h
 match j, hj with
 | 0, _ => exact h0
 | 1, _ => exact h1
 | 2, _ => exact h2
theorem sgn_pos {n : Int} : 0 < sgn n ↔ 0 < n := by have := sgn_cases n; omega
theorem sgn_one {n : Int} : sgn n = 1 ↔ 0 < n := by have := sgn_cases n; omega
theorem eqs_fn (f : Fn) (cs bs : Array Value) (x y : Operand) (w : World) :
  (do eqGuard .eql 32 x y (.func f cs bs) .nilFunc; binOp .eql 32 (.func f cs bs) .nilFunc : Sem Value).run Try.prog w = .ok (.bool false) w := by
 have h : (match Try.prog.underlying 32 with | some (.func _ _ _) => true | _ => false) = true := by kernel_rfl
 split at h
 ·rename_i a b c hu
  simp [go_sem, eqGuard, binOp, Op.equal]
  rw [show Op.maxDepth = 9999 + 1 from rfl]
  generalize 9999 = dd
  simp [Op.equalIn, run_underlying hu]
 ·cases h
end Go.Proofs.Ytbanlhlggkdanaa
namespace Go.Proofs.Ytbanlhlggkdanaa
open Go.RowKit
def optAll {α : Type} (o : Option α) (f : α → Bool) : Bool := match o with
 | some x => f x
 | none => true
def optAny {α : Type} (o : Option α) (f : α → Bool) : Bool := match o with
 | some x => f x
 | none => false
theorem optAll_of {α : Type} {o : Option α} {f : α → Bool} (h : optAll o f = true) {x : α} (hx : o = some x) : f x = true := by subst hx; exact h
theorem optAny_of {α : Type} {o : Option α} {f : α → Bool} (h : optAny o f = true) : ∃ x, o = some x ∧ f x = true := by
 cases o with
 | none => cases h
 | some x => exact ⟨x, rfl, h⟩
def gbB (M : MD) (L : MapO) : Bool :=
 M.free.all (fun k => decide (0 ≤ k ∧ k < M.tris.length)) && (M.free.all (fun k => optAll (vw M.tris k.toNat) fun v => !decide (rv v)) && (decide M.free.Nodup && (decide (L.map (·.1)).Nodup &&
 (L.all (fun e => decide (0 ≤ e.1.1 ∧ 0 ≤ e.1.2 ∧ 0 ≤ e.2.1.1 ∧ 0 ≤ e.2.1.2 ∧ e.2.1.2 < 3) && optAny (vw M.tris e.2.1.1.toNat) fun v => decide (rv v ∧ kv v e.2.1.2.toNat = e.1)) &&
 ((List.range M.tris.length).all (fun q => optAll (vw M.tris q) fun v => decide (rv v) || decide ((q : Int) ∈ M.free)) &&
 (List.range M.tris.length).all (fun q => optAll (vw M.tris q) fun v => !decide (rv v) || (List.range M.tris.length).all (fun q' => optAll (vw M.tris q') fun v' => !decide (rv v') || [0, 1, 2].all fun k => [0, 1, 2].all fun k' => !decide (kv v k = kv v' k') || decide (q = q' ∧ k = k'))))))))
theorem in3 {k : Nat} (h : k < 3) : k ∈ [0, 1, 2] := by
 match k, h with
 | 0, _ => decide
 | 1, _ => decide
 | 2, _ => decide
theorem gbB_ok {M : MD} {L : MapO} (h : gbB M L = true) : GB M L := by
 unfold gbB at h
 simp only [Bool.and_eq_true, List.all_eq_true, decide_eq_true_eq] at h
 obtain ⟨h1, h2, h3, h4, h5, h6, h7⟩ := h
 refine ⟨h1, fun k v hk hv => ?_, h3, h4, fun e he => ?_, fun q v hq hv => ?_, fun q v k q' v' k' hq hv hk hq' hv' hk' he => ?_⟩
 ·have := optAll_of (h2 k hk) hv
  simpa using this
 ·obtain ⟨⟨a, b, c, d, e'⟩, g⟩ := h5 e he
  obtain ⟨v, hv, g⟩ := optAny_of g
  simp only [decide_eq_true_eq] at g
  exact ⟨a, b, c, d, e', v, hv, g⟩
 ·have := optAll_of (h6 q (List.mem_range.2 (vw_lt hq))) hq
  simpa [hv] using this
 ·have := optAll_of (h7 q (List.mem_range.2 (vw_lt hq))) hq
  simp only [hv, decide_true, Bool.not_true, Bool.false_or, List.all_eq_true] at this
  have := optAll_of (this q' (List.mem_range.2 (vw_lt hq'))) hq'
  simp only [hv', decide_true, Bool.not_true, Bool.false_or, List.all_eq_true] at this
  have := this k (in3 hk) k' (in3 hk')
  simpa [he] using this
def trv (t : Tr) : Tr := ⟨t.v0, t.v1, t.v2, -1, -1, -1, false, false, false⟩
def rvs (l : List Tr) : List (Nat × Tr) := (reals l).map fun x => (x.1, trv x.2)
def rHeld (pts : List (Int × Int)) (p : Int × Int) (x : Pl) (t : Tr) (s : Int × Int × Int) : Bool :=
 if 0 ≤ s.1 then decide (x.1 = 2 ∧ x.2.2.1 = s.1 ∧ x.2.2.2 = 0 ∧ hasV t s.1)
 else if ¬ (s.2.1 = 0 ∧ s.2.2 = 0) then decide (x.1 = 1 ∧ (x.2.2.1 = s.2.1 ∧ x.2.2.2 = s.2.2) ∧ hasV t x.2.2.1 ∧ hasV t x.2.2.2)
 else decide (x.1 = 0 ∧ x.2.2.1 = 0 ∧ x.2.2.2 = 0 ∧ 0 < A2 (ptAt pts t.v0).1 (ptAt pts t.v0).2 (ptAt pts t.v1).1 (ptAt pts t.v1).2 p.1 p.2 ∧ 0 < A2 (ptAt pts t.v1).1 (ptAt pts t.v1).2 (ptAt pts t.v2).1 (ptAt pts t.v2).2 p.1 p.2 ∧ 0 < A2 (ptAt pts t.v2).1 (ptAt pts t.v2).2 (ptAt pts t.v0).1 (ptAt pts t.v0).2 p.1 p.2)
def boxB (pts : List (Int × Int)) (R : List (Nat × Tr)) (X Y : Nat) : Bool :=
 (List.range (X + 1)).all fun x => (List.range (Y + 1)).all fun y => R.any (fun r => decide (hld pts r.2 ((x : Int), (y : Int)))) &&
  R.all (fun r => !decide (hld pts r.2 ((x : Int), (y : Int))) || rHeld pts ((x : Int), (y : Int)) (place pts r.2 r.1 ((x : Int), (y : Int))) r.2 (R.foldl (rTri pts ((x : Int), (y : Int))) (false, -1, 0, 0)).2)
def sideB (pts : List (Int × Int)) (X Y : Int) (e : Int × Int) : Nat :=
 if (ptAt pts e.1).2 = 0 ∧ (ptAt pts e.2).2 = 0 ∧ (ptAt pts e.1).1 < (ptAt pts e.2).1 then 1
 else if (ptAt pts e.1).1 = X ∧ (ptAt pts e.2).1 = X ∧ (ptAt pts e.1).2 < (ptAt pts e.2).2 then 2
 else if (ptAt pts e.1).2 = Y ∧ (ptAt pts e.2).2 = Y ∧ (ptAt pts e.2).1 < (ptAt pts e.1).1 then 3
 else if (ptAt pts e.1).1 = 0 ∧ (ptAt pts e.2).1 = 0 ∧ (ptAt pts e.2).2 < (ptAt pts e.1).2 then 4 else 0
def inB (X Y : Int) (q : Int × Int) : Bool := decide (0 ≤ q.1 ∧ q.1 ≤ X ∧ 0 ≤ q.2 ∧ q.2 ≤ Y)
instance (t : Tr) (n : Nat) : Decidable (t.ok n) := by unfold Tr.ok; exact inferInstance
def lawB (M : MD) (L : MapO) (X Y : Nat) : Bool :=
 gbB M L && (decide (M.free.length ≤ L.length) && (decide (L.length ≤ 100) && (decide (M.tris.length ≤ 100) && ((rvs M.tris).all (fun r => decide (r.2.ok M.pts.length) && (decide (0 < A2 (ptAt M.pts r.2.v0).1 (ptAt M.pts r.2.v0).2 (ptAt M.pts r.2.v1).1 (ptAt M.pts r.2.v1).2 (ptAt M.pts r.2.v2).1 (ptAt M.pts r.2.v2).2) && (inB X Y (ptAt M.pts r.2.v0) && (inB X Y (ptAt M.pts r.2.v1) && inB X Y (ptAt M.pts r.2.v2)))) &&
  [0, 1, 2].all (fun k => decide (kv (r.2.v0, r.2.v1, r.2.v2) k ∈ L.map (·.1)) || optAny (nb M.tris r.1 k) fun x => decide (0 ≤ x) && optAny (vw M.tris x.toNat) fun v => decide (rv v))) &&
 (L.all (fun e => decide (sideB M.pts X Y e.1 ≠ 0)) && ([1, 2, 3, 4].all (fun k => L.any fun e => decide (sideB M.pts X Y e.1 = k)) && boxB M.pts (rvs M.tris) X Y))))))
set_option maxRecDepth 100000 in
theorem lawB_all : ∀ b0 b1 b2 b3 : Bool, lawB (gridR [] 1 1 (bit4 b0 b1 b2 b3)).M (gridR [] 1 1 (bit4 b0 b1 b2 b3)).L 2 2 = true ∧ lawB (gridR [] 1 2 (bit4 b0 b1 b2 b3)).M (gridR [] 1 2 (bit4 b0 b1 b2 b3)).L 2 4 = true ∧
  lawB (gridR [] 2 1 (bit4 b0 b1 b2 b3)).M (gridR [] 2 1 (bit4 b0 b1 b2 b3)).L 4 2 = true ∧ lawB (gridR [] 2 2 (bit4 b0 b1 b2 b3)).M (gridR [] 2 2 (bit4 b0 b1 b2 b3)).L 4 4 = true := by decide +kernel
theorem gridR_nf {W H : Nat} {f : Nat → Bool} (F : MapI) (hW : W = 1 ∨ W = 2) (hH : H = 1 ∨ H = 2) : gridR F W H f = gridR F W H (bit4 (f 0) (f 1) (f 2) (f 3)) := by
 unfold gridR gHead
 rw [gTris_nf (f := f) hW hH]
theorem gridR_law {W H : Nat} (f : Nat → Bool) (hW : W = 1 ∨ W = 2) (hH : H = 1 ∨ H = 2) : lawB (gridR [] W H f).M (gridR [] W H f).L (2 * W) (2 * H) = true := by
 rw [gridR_nf [] hW hH]
 have := lawB_all (f 0) (f 1) (f 2) (f 3)
 rcases hW with rfl | rfl <;> rcases hH with rfl | rfl
 ·exact this.1
 ·exact this.2.1
 ·exact this.2.2.1
 ·exact this.2.2.2
end Go.Proofs.Ytbanlhlggkdanaa
