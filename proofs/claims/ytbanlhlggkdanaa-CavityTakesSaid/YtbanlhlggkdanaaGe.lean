/- What the law CavityTakes needs. Part 5: the texts of C4 C5 C7 C8 C9 C10 C11 C12 C13 RowS RowT. -/
import Derived.Test.YtbanlhlggkdanaaGd
import Derived.Laws.IdiomArrays
import Derived.OpenShut
import Derived.ProofKit
import Derived.Lib.SmallJoins
import Derived.Below
import Derived.ChangeSame
set_option linter.unusedSimpArgs false
set_option linter.unusedVariables false
namespace Go.Proofs.Ytbanlhlggkdanaa
open Go.RowKit
theorem ent_42 : Enter Try.prog 42 = true := by kernel_rfl
theorem zer_85 : zer Try.prog 85 = some (.agg #[.slice none 0 0, .slice none 0 0, .bool false]) := by kernel_rfl
theorem lay_85 : lay1 Try.prog 85 = some [.slice none 0 0, .slice none 0 0, .bool false] := by kernel_rfl
theorem tyi_85 : tyi Try.prog 85 = some (true, 3) := by kernel_rfl
theorem fld_42_0 : fld Try.prog 42 0 = some 0 := by kernel_rfl
theorem fld_85_0 : fld Try.prog 85 0 = some 0 := by kernel_rfl
theorem fld_42_2 : fld Try.prog 42 2 = some 2 := by kernel_rfl
theorem fld_42_3 : fld Try.prog 42 3 = some 3 := by kernel_rfl
theorem umap_129 : Try.prog.underlying 129 = some (.map 3 4) := by kernel_rfl
theorem zer_89 : zer Try.prog 89 = some (.agg #[.int .i64 0, .int .i64 0, .int .i64 0, .int .i64 0, .bool false]) := by kernel_rfl
theorem lay_89 : lay1 Try.prog 89 = some [.int .i64 0, .int .i64 0, .int .i64 0, .int .i64 0, .bool false] := by kernel_rfl
theorem tyi_89 : tyi Try.prog 89 = some (true, 5) := by kernel_rfl
theorem fld_89_3 : fld Try.prog 89 3 = some 3 := by kernel_rfl
theorem fld_89_0 : fld Try.prog 89 0 = some 0 := by kernel_rfl
theorem umap_131 : Try.prog.underlying 131 = some (.map 3 89) := by kernel_rfl
theorem fld_85_2 : fld Try.prog 85 2 = some 2 := by kernel_rfl
theorem fld_89_4 : fld Try.prog 89 4 = some 4 := by kernel_rfl
theorem fld_85_1 : fld Try.prog 85 1 = some 1 := by kernel_rfl
theorem tyi_83 : tyi Try.prog 83 = some (false, 1) := by kernel_rfl
theorem ulen_83 : ((#[83] : Array TypeId)[0]?).bind Try.prog.underlying = some (.slice (Try.prog.elem ((#[83] : Array TypeId).getD 0 0))) := by kernel_rfl
theorem elt_83 : elt Try.prog 83 = some (89, 5, 40) := by kernel_rfl
theorem fldt_89_1 : fldt Try.prog 89 1 = some (1, 3) := by kernel_rfl
set_option maxRecDepth 100000 in
set_option maxHeartbeats 32000000 in
theorem dig_c {B gT : Nat} {h : Mh} {pts : List (Int × Int)} {tris : List Tr} {p1 p2 kd pa pb : Int} {n0 n1 : Nat} {q0 : List Nat} (hP : ∀ j, j < pts.length → P2 (pts.getD j (0, 0)).1 (pts.getD j (0, 0)).2) (hp : P2 p1 p2) (hlen : tris.length ≤ 1000000) (hpl : pts.length ≤ 1000000) (hTg : h.T = some ⟨gT, 0, none⟩) (hM : MsOk pts tris)
  {t0 : Tr} (ht0 : tris[n0]? = some t0) (hn1 : kd = 1 → acr t0 pa pb = (n1 : Int)) (hq0 : q0 = if kd = 1 then [n0, n1] else [n0]) (hql : ∀ x, x ∈ q0 → lvT tris x) (hqn : q0.Nodup) : Tri Try.prog 42 [.pointer (some ⟨B, 0, none⟩), ptv p1 p2, plV (kd, (n0 : Int), pa, pb)] [] (meshFs B h pts tris) (RetX (fun (x : List Nat × Option Addr × Nat × Option Addr × Nat) => DgOk pts tris (p1, p2) q0 x.1) (fun x => .agg #[.slice x.2.1 x.1.length x.2.2.1, .slice x.2.2.2.1 (rimOf pts tris (p1, p2) x.1).length x.2.2.2.2, .bool (cutOf pts tris (p1, p2) x.1)]) (fun _ => []) (fun x => [sliceR 1 x.2.1 x.1.length (Nv x.1), sliceR 5 x.2.2.2.1 (rimOf pts tris (p1, p2) x.1).length (sdCells (rimOf pts tris (p1, p2) x.1))])) := by
 refine Tri_of (N := 209) Try.func42 rfl ent_42 rfl rfl ?_
 intro w0 S0 T0
 show CJ _ _ _ [(0, _), (1, _), (2, _)] _ _
 show CJ _ _ _ [(0, _), (1, _), (2, .agg #[.int .i64 kd, .int .i64 (n0 : Nat), .int .i64 pa, .int .i64 pb])] _ _
 refine CJ_seq ?_
 refine CJ_reg ?_
 refine LJ_box (cs := #[_, _]) rfl rfl rfl rfl ?_
 intro b1
 refine LJ_box (cs := #[_, _, _, _]) rfl rfl rfl rfl ?_
 intro b2
 refine LJ_alloc (cs := #[_, _, _]) rfl rfl zer_85 rfl ?_
 intro b3
 refine LJ_nil ?_
 refine QJ_then ?_
 refine CJ_seq ?_
 refine CJ_reg ?_
 refine LJ_y rfl rfl (YJ_fieldOwn rfl fld_42_1 rfl) ?_
 refine LJ_y rfl rfl (YJ_loadL rfl tyi_3 m1 rfl) ?_
 refine LJ_buildSlice (cs := [_]) rfl rfl elt_55 zer_3 rfl (by decide) (pvs := [(_, _)]) rfl rfl rfl ?_
 intro b4
 refine LJ_turnK (k := 0) (r' := rowR 3 1 (some ⟨b4, 0, none⟩) 1 1 (Nv [n0])) rfl (fun w S q => cellsR_row (n := 1) (size := 1) rfl (by decide) w S q) ?_
 refine LJ_y rfl rfl (YJ_build1 (cs := [_, _, _]) lay_85 rfl rfl rfl) ?_
 refine LJ_alloc (cs := #[_, _, _]) rfl rfl zer_85 rfl ?_
 intro b5
 refine LJ_store (cs' := #[_, _, _]) (μ' := [_, _, _, _, _]) 0 rfl rfl rfl rfl tyi_85 rfl (Nat.le_of_ble_eq_true rfl) rfl rfl rfl ?_
 refine LJ_nil ?_
 refine QJ_then ?_
 refine CJ_seqC (F := fun (i : Option Addr × Nat) => ⟨[(0, .pointer (some ⟨B, 0, none⟩)), (4, .pointer (some ⟨b1, 0, none⟩)), (7, .pointer (some ⟨b5, 0, none⟩)), (6, .pointer (some ⟨b3, 0, none⟩))], [cellsR b5 #[.slice i.1 q0.length i.2, .slice none 0 0, .bool false] 85, rowR 3 1 i.1 q0.length i.2 (Nv q0), cellsR b1 #[.int .i64 p1, .int .i64 p2] 23, cellsR b2 #[.int .i64 kd, .int .i64 (n0 : Nat), .int .i64 pa, .int .i64 pb] 42, cellsR b3 #[.slice none 0 0, .slice none 0 0, .bool false] 85], (meshFs B h pts tris)⟩) (I := fun (i : Option Addr × Nat) => True) ?_ ?_
 ·skip
  refine CJ_seq ?_
  refine CJ_reg ?_
  refine LJ_y rfl rfl (YJ_fieldOwn rfl fld_42_0 rfl) ?_
  refine LJ_y rfl rfl (YJ_loadL rfl tyi_3 m3 rfl) ?_
  refine LJ_y rfl rfl (YJ_bin rfl rfl rfl) ?_
  refine LJ_nil ?_
  refine QJ_then ?_
  refine CJ_cond rfl (fun h30 => ?_) (fun h30 => ?_)
  ·simp only [decide_eq_true_eq] at h30
   obtain rfl : q0 = [n0, n1] := by rw [hq0, if_pos h30]
   refine CJ_regM mix (by kernel_rfl) (fun _ _ _ _ _ h => h) [[13], [11, 13], [], [], []] ?_
   refine BJ_y 0 rfl (by kernel_rfl) (by kernel_rfl) (by kernel_rfl) rfl rfl (YJ_fieldOwn rfl fld_85_0 rfl) ?_
   refine BJ_l 1 0 rfl (by kernel_rfl) (by kernel_rfl) (by kernel_rfl) rfl (by kernel_rfl) m0 rfl rfl (YJ_loadL rfl tyi_55 m0 rfl) ?_
   refine BJ_y 2 rfl (by kernel_rfl) (by kernel_rfl) (by kernel_rfl) rfl rfl (YJ_move rfl) ?_
   refine BJ_y 3 rfl (by kernel_rfl) (by kernel_rfl) (by kernel_rfl) rfl rfl (YJ_fieldOwn rfl fld_42_1 rfl) ?_
   refine BJ_l 4 3 rfl (by kernel_rfl) (by kernel_rfl) (by kernel_rfl) rfl (by kernel_rfl) m3 rfl rfl (YJ_loadL rfl tyi_3 m0 rfl) ?_
   refine BJ_y 5 rfl (by kernel_rfl) (by kernel_rfl) (by kernel_rfl) rfl rfl (YJ_fieldOwn rfl fld_42_2 rfl) ?_
   refine BJ_l 6 3 rfl (by kernel_rfl) (by kernel_rfl) (by kernel_rfl) rfl (by kernel_rfl) m3 rfl rfl (YJ_loadL rfl tyi_3 m0 rfl) ?_
   refine BJ_y 7 rfl (by kernel_rfl) (by kernel_rfl) (by kernel_rfl) rfl rfl (YJ_fieldOwn rfl fld_42_3 rfl) ?_
   refine BJ_l 8 3 rfl (by kernel_rfl) (by kernel_rfl) (by kernel_rfl) rfl (by kernel_rfl) m3 rfl rfl (YJ_loadL rfl tyi_3 m0 rfl) ?_
   refine BJ_call0 9 rfl (by kernel_rfl) rfl rfl rfl rfl rfl (And.intro (.inr m0) (And.intro (.inr m1) (And.intro (.inr m2) (And.intro (.inr m3) (And.intro (.inr m4) (trivial)))))) (across_c (h := h) (pts := pts) (a := pa) (b := pb) ht0 (by omega)) (fun r h => h) ?_
   refine BJ_val (v := .int .i64 (n1 : Nat)) (congrArg (Value.int .i64) (hn1 h30)) ?_
   refine BJ_buildSlice (vs := [_]) (cs := [_]) 10 rfl (by kernel_rfl) rfl rfl elt_55 zer_3 (by decide) (by decide) rfl rfl rfl rfl rfl (fun b => (And.intro (.inr m1) (And.intro (.inr m2) (And.intro (.inr m3) (And.intro (.inr m4) (And.intro (.inr m5) (trivial))))))) ?_
   intro b6
   refine BJ_append 11 2 rfl (by kernel_rfl) rfl rfl elt_55 zer_3 rfl rfl rfl rfl (Rd_own m0) rfl rfl (by omega) (by omega) (by decide) (Nv_app [n0] n1) (fun _ _ => (And.intro (.inr m1) (And.intro (.inl rfl) (And.intro (.inr m3) (And.intro (.inr m4) (And.intro (.inr m5) (trivial))))))) ?_
   intro A42 c42
   show BJ _ _ _ _ _ _ _ _ (_ :: _ :: _ :: _ :: _ :: _ :: _) _
   refine BJ_y 12 rfl (by kernel_rfl) (by kernel_rfl) (by kernel_rfl) rfl rfl (YJ_fieldOwn rfl fld_85_0 rfl) ?_
   refine BJ_store (cs' := #[_, _, _]) (μ' := [_, _, _, _, _, _]) 13 1 rfl (by kernel_rfl) rfl rfl rfl rfl tyi_55 rfl (Nat.le_of_ble_eq_true rfl) rfl rfl rfl (And.intro (.inl rfl) (And.intro (.inl rfl) (And.intro (.inr m3) (And.intro (.inr m4) (And.intro (.inr m5) (trivial)))))) ?_
   refine BJ_done (by kernel_rfl) ?_
   refine QJ_cut ((A42, c42)) (μr := [_]) trivial (And.intro rfl (And.intro rfl (And.intro rfl (And.intro rfl (trivial))))) (permI [1, 1, 3, 2, 1] rfl) (fun _ h => h)
  ·simp only [decide_eq_false_iff_not] at h30
   obtain rfl : q0 = [n0] := by rw [hq0, if_neg h30]
   refine CJ_skip ?_
   refine QJ_cut ((some ⟨b4, 0, none⟩, 1)) (μr := []) trivial (And.intro rfl (And.intro rfl (And.intro rfl (And.intro rfl (trivial))))) (permI [0, 0, 2, 1] rfl) (fun _ h => h)
 ·rintro ⟨A0, cA0⟩ -
  show CJ _ _ _ [(0, .pointer (some ⟨B, 0, none⟩)), (4, .pointer (some ⟨b1, 0, none⟩)), (7, .pointer (some ⟨b5, 0, none⟩)), (6, .pointer (some ⟨b3, 0, none⟩))] [cellsR b5 #[.slice A0 q0.length cA0, .slice none 0 0, .bool false] 85, rowR 3 1 A0 q0.length cA0 (Nv q0), cellsR b1 #[.int .i64 p1, .int .i64 p2] 23, cellsR b2 #[.int .i64 kd, .int .i64 (n0 : Nat), .int .i64 pa, .int .i64 pb] 42, cellsR b3 #[.slice none 0 0, .slice none 0 0, .bool false] 85] _
  have hq0l : q0.length ≤ 2 := by rw [hq0]; split <;> simp
  have hq00 : 0 < q0.length := by rw [hq0]; split <;> simp
  refine CJ_seq ?_
  refine CJ_reg ?_
  refine LJ_makeMap rfl rfl ?_
  intro im
  refine LJ_y rfl rfl (YJ_assign rfl) ?_
  refine LJ_nil ?_
  refine QJ_then ?_
  refine CJ_seq ?_
  refine CJ_seq ?_
  refine CJ_rowSome (A := A0) m2 (by omega) (fun gq hq hcq => ?_)
  subst hq
  refine CJ_reg ?_
  refine LJ_y rfl rfl (YJ_fieldOwn rfl fld_85_0 rfl) ?_
  refine LJ_y rfl rfl (YJ_loadL rfl tyi_55 m1 rfl) ?_
  refine LJ_y rfl rfl (YJ_len rfl ulen_55 rfl) ?_
  refine LJ_y rfl rfl (YJ_move rfl) ?_
  refine LJ_nil ?_
  refine QJ_then ?_
  refine CJ_block ?_
  refine CJ_loopF (F := fun (i : Nat × MB × Nat) => ⟨[(0, .pointer (some ⟨B, 0, none⟩)), (4, .pointer (some ⟨b1, 0, none⟩)), (7, .pointer (some ⟨b5, 0, none⟩)), (6, .pointer (some ⟨b3, 0, none⟩)), (8, .map (some im)), (46, .slice (some ⟨gq, 0, none⟩) q0.length cA0), (47, .int .i64 q0.length), (48, .int .i64 (i.1 : Nat))], [mapR im gI gBo i.2.1 i.2.2], []⟩) (I := fun (i : Nat × MB × Nat) => i.1 ≤ q0.length ∧ InL i.2.1 (q0.take i.1)) (m := fun (i : Nat × MB × Nat) => q0.length - i.1) (0, [], 0) (μr := [_, _, _, _, _]) ⟨Nat.zero_le _, InL.nil⟩ (And.intro rfl (And.intro rfl (And.intro rfl (And.intro rfl (And.intro rfl (And.intro rfl (And.intro rfl (And.intro rfl (trivial))))))))) (permI [] rfl) (fun _ h => nomatch h) ?_
  rintro ⟨k, L, c⟩ ⟨hk, hL⟩
  try dsimp only at hk
  try dsimp only at hL
  show CJ _ _ _ [(0, .pointer (some ⟨B, 0, none⟩)), (4, .pointer (some ⟨b1, 0, none⟩)), (7, .pointer (some ⟨b5, 0, none⟩)), (6, .pointer (some ⟨b3, 0, none⟩)), (8, .map (some im)), (46, .slice (some ⟨gq, 0, none⟩) q0.length cA0), (47, .int .i64 q0.length), (48, .int .i64 (k : Nat))] (mapR im gI gBo L c :: _ :: _ :: _ :: _ :: _ :: _) _
  refine CJ_seq ?_
  refine CJ_reg ?_
  refine LJ_y rfl rfl (YJ_bin rfl rfl rfl) ?_
  refine LJ_nil ?_
  refine QJ_then ?_
  refine CJ_seq ?_
  refine CJ_cond rfl (fun h49 => ?_) (fun h49 => ?_)
  ·simp only [decide_eq_true_eq] at h49
   obtain ⟨x, hx⟩ : ∃ x, q0[k]? = some x := ⟨_, List.getElem?_eq_getElem (by omega)⟩
   refine CJ_skip ?_
   refine QJ_then ?_
   refine CJ_seq ?_
   refine CJ_block ?_
   refine CJ_seq ?_
   refine CJ_reg ?_
   refine LJ_y rfl rfl (YJ_ixOwn rfl rfl elt_55 (by omega) (by omega)) ?_
   refine LJ_y rfl rfl (YJ_row m2 (YJ_loadFactP (A := some ⟨gq, 0, none⟩) (j := k) rfl (addr_eq (by first | omega | (simp only [Nat.add_eq]; omega))) tyi_3 (.head _) (Nv_at hx))) ?_
   refine LJ_y rfl rfl (YJ_assign rfl) ?_
   refine LJ_nil ?_
   refine QJ_then ?_
   refine CJ_reg ?_
   refine LJ_y rfl rfl (YJ_move rfl) ?_
   refine LJ_y rfl rfl (YJ_move rfl) ?_
   refine LJ_mapUpdate (f := gI) (g := gBo) (k := (x : Int)) (v := true) 0 rfl rfl rfl rfl rfl umap_129 keyI rfl rfl ?_
   show LJ _ _ _ _ _ (_ :: _ :: _ :: _ :: _ :: _ :: _) _
   refine LJ_nil ?_
   refine QJ_in_normal ?_
   refine QJ_then ?_
   refine CJ_reg ?_
   refine LJ_y rfl rfl (YJ_bin rfl rfl (iop_add (by omega))) ?_
   refine LJ_y rfl rfl (YJ_move rfl) ?_
   refine LJ_nil ?_
   refine QJ_roundF (F := fun (i : Nat × MB × Nat) => ⟨[(0, .pointer (some ⟨B, 0, none⟩)), (4, .pointer (some ⟨b1, 0, none⟩)), (7, .pointer (some ⟨b5, 0, none⟩)), (6, .pointer (some ⟨b3, 0, none⟩)), (8, .map (some im)), (46, .slice (some ⟨gq, 0, none⟩) q0.length cA0), (47, .int .i64 q0.length), (48, .int .i64 (i.1 : Nat))], [mapR im gI gBo i.2.1 i.2.2], []⟩) (I := fun (i : Nat × MB × Nat) => i.1 ≤ q0.length ∧ InL i.2.1 (q0.take i.1)) (m := fun (i : Nat × MB × Nat) => q0.length - i.1) (i := (k, L, c)) ((k + 1, mput (x : Int) true L c, mclk (x : Int) L c)) (μd := []) ⟨by omega, by dsimp only; rw [List.take_add_one, hx]; exact hL.put x c⟩ (by dsimp only; omega) (And.intro rfl (And.intro rfl (And.intro rfl (And.intro rfl (And.intro rfl (And.intro rfl (And.intro rfl (And.intro rfl (trivial))))))))) (permI [] rfl) (fun _ h => nomatch h) (fun _ h => h)
  ·simp only [decide_eq_false_iff_not] at h49
   rw [List.take_of_length_le (by omega)] at hL
   refine CJ_exit ?_
   refine QJ_then_exit ?_
   refine QJ_then_exit ?_
   refine QJ_in_exit ?_
   refine QJ_then ?_
   refine CJ_seq ?_
   refine CJ_seq ?_
   refine CJ_reg ?_
   refine LJ_y rfl rfl (YJ_assign rfl) ?_
   refine LJ_nil ?_
   refine QJ_then ?_
   refine CJ_block ?_
   refine CJ_loopF (F := fun (i : Nat × List Nat × MB × Nat × Option Addr × Nat) => ⟨[(0, .pointer (some ⟨B, 0, none⟩)), (4, .pointer (some ⟨b1, 0, none⟩)), (7, .pointer (some ⟨b5, 0, none⟩)), (6, .pointer (some ⟨b3, 0, none⟩)), (8, .map (some im)), (11, .int .i64 (i.1 : Nat))], [cellsR b5 #[.slice i.2.2.2.2.1 i.2.1.length i.2.2.2.2.2, .slice none 0 0, .bool false] 85, rowR 3 1 i.2.2.2.2.1 i.2.1.length i.2.2.2.2.2 (Nv i.2.1), mapR im gI gBo i.2.2.1 i.2.2.2.1], []⟩) (I := fun (i : Nat × List Nat × MB × Nat × Option Addr × Nat) => i.1 ≤ i.2.1.length ∧ Bf pts tris (p1, p2) q0 i.2.1 i.1 0 ∧ InL i.2.2.1 i.2.1) (m := fun (i : Nat × List Nat × MB × Nat × Option Addr × Nat) => tris.length - i.1) (0, q0, L, c, some ⟨gq, 0, none⟩, cA0) (μr := [_, _, _]) ⟨Nat.zero_le _, Bf.start hqn hql, hL⟩ (And.intro rfl (And.intro rfl (And.intro rfl (And.intro rfl (And.intro rfl (And.intro rfl (trivial))))))) (permI [1, 1] rfl) (fun _ h => nomatch h) ?_
   rintro ⟨k, q1, L1, c1, A1, cA1⟩ ⟨hk, hB, hL1⟩
   try dsimp only at hk
   try dsimp only at hB
   try dsimp only at hL1
   show CJ _ _ _ [(0, .pointer (some ⟨B, 0, none⟩)), (4, .pointer (some ⟨b1, 0, none⟩)), (7, .pointer (some ⟨b5, 0, none⟩)), (6, .pointer (some ⟨b3, 0, none⟩)), (8, .map (some im)), (11, .int .i64 (k : Nat))] (cellsR b5 #[.slice A1 q1.length cA1, .slice none 0 0, .bool false] 85 :: rowR 3 1 A1 q1.length cA1 (Nv q1) :: mapR im gI gBo L1 c1 :: _ :: _ :: _ :: _) _
   refine CJ_seq ?_
   refine CJ_seq ?_
   refine CJ_reg ?_
   refine LJ_y rfl rfl (YJ_move rfl) ?_
   refine LJ_y rfl rfl (YJ_fieldOwn rfl fld_85_0 rfl) ?_
   refine LJ_y rfl rfl (YJ_loadL rfl tyi_55 m0 rfl) ?_
   refine LJ_y rfl rfl (YJ_len rfl ulen_55 rfl) ?_
   refine LJ_y rfl rfl (YJ_bin rfl rfl rfl) ?_
   refine LJ_nil ?_
   refine QJ_then ?_
   refine CJ_cond rfl (fun h59 => ?_) (fun h59 => ?_)
   ·simp only [decide_eq_true_eq] at h59
    have hq1l := hB.len
    obtain ⟨x, hx⟩ : ∃ x, q1[k]? = some x := ⟨_, List.getElem?_eq_getElem (by omega)⟩
    obtain ⟨t, ht, htv⟩ := hB.lv x (List.mem_of_getElem? hx)
    have hxl := (List.getElem?_eq_some_iff.1 ht).1
    refine CJ_skip ?_
    refine QJ_then ?_
    refine CJ_seq ?_
    refine CJ_block ?_
    refine CJ_seq ?_
    refine CJ_rowSome (A := A1) m1 (by omega) (fun gr hq hcq => ?_)
    subst hq
    refine CJ_regDA mix (by kernel_rfl) (fun _ _ _ _ _ h => h) _ _ (fun _ h => h) (fun _ h => h) [⟨11, 12, 37, #[.int .i64 0, .int .i64 0, .int .i64 0, .int .i64 0, .int .i64 0, .int .i64 0, .bool false, .bool false, .bool false]⟩] 12 rfl (And.intro ⟨_, _, _, _, rfl, zer_37, rfl⟩ (trivial)) rfl rfl ?_
    refine AA_y 0 rfl (by kernel_rfl) rfl rfl rfl (YJ_move rfl) ?_
    refine AA_y 1 rfl (by kernel_rfl) rfl rfl rfl (YJ_nilCheck rfl) ?_
    refine AA_y 2 rfl (by kernel_rfl) rfl rfl rfl (YJ_fieldOwn rfl fld_57_1 rfl) ?_
    refine AA_y 3 rfl (by kernel_rfl) rfl rfl rfl (YJ_loadFactP (A := some ⟨B, 0, none⟩) (j := 1) rfl rfl tyi_54 m0 rfl) ?_
    refine AA_y 4 rfl (by kernel_rfl) rfl rfl rfl (YJ_fieldOwn rfl fld_85_0 rfl) ?_
    refine AA_y 5 rfl (by kernel_rfl) rfl rfl rfl (YJ_loadL rfl tyi_55 m0 rfl) ?_
    refine AA_y 6 rfl (by kernel_rfl) rfl rfl rfl (YJ_move rfl) ?_
    refine AA_y 7 rfl (by kernel_rfl) rfl rfl rfl (YJ_ixOwn rfl rfl elt_55 (by omega) (by omega)) ?_
    refine AA_y 8 rfl (by kernel_rfl) rfl rfl rfl (YJ_row m1 (YJ_loadFactP (A := some ⟨gr, 0, none⟩) (j := k) rfl (addr_eq (by first | omega | (simp only [Nat.add_eq]; omega))) tyi_3 (.head _) (Nv_at hx))) ?_
    refine AA_val (v := .int .i64 (x : Nat)) (rfl) ?_
    refine AA_y 9 rfl (by kernel_rfl) rfl rfl rfl (YJ_ixFact rfl rfl elt_54 m2 (by decide) (by omega) (by omega) (by omega)) ?_
    refine AA_y 10 rfl (by kernel_rfl) rfl rfl rfl (YJ_loadFactN (vs := [.int .i64 t.v0, .int .i64 t.v1, .int .i64 t.v2, .int .i64 t.n0, .int .i64 t.n1, .int .i64 t.n2, .bool t.f0, .bool t.f1, .bool t.f2]) (xs := trCells tris) rfl tyi_37 m2 (trCells_row (cast_idx ht)) rfl) ?_
    refine AA_end (by kernel_rfl) rfl ?_
    intro bs hbs
    obtain ⟨b8, rfl⟩ := len_1 hbs
    clear hbs
    show AJ _ _ _ _ _ _ _ ((12, .pointer (some ⟨b8, 0, none⟩)) :: _) (cellsR b8 _ _ :: _) _
    refine AJ_store (cs' := #[.int .i64 t.v0, .int .i64 t.v1, .int .i64 t.v2, .int .i64 t.n0, .int .i64 t.n1, .int .i64 t.n2, .bool t.f0, .bool t.f1, .bool t.f2]) (μ' := [_, _, _, _, _, _, _]) 12 0 rfl (by kernel_rfl) rfl rfl rfl rfl tyi_37 rfl (Nat.le_of_ble_eq_true rfl) rfl (wr_all rfl) rfl (fun _ => AllIn.sub (And.intro m1 (And.intro m2 (And.intro m3 (And.intro m4 (And.intro m5 (And.intro m6 (trivial)))))))) ?_
    refine AJ_done (by kernel_rfl) ?_
    refine QJ_then ?_
    refine CJ_seq ?_
    refine CJ_reg ?_
    refine LJ_y rfl rfl (YJ_fieldOwn rfl fld_37_1 rfl) ?_
    refine LJ_y rfl rfl (YJ_loadN (vs := [_, _, _]) rfl tyi_34 m0 rfl rfl) ?_
    refine LJ_y rfl rfl (YJ_move rfl) ?_
    refine LJ_nil ?_
    refine QJ_then ?_
    refine CJ_block ?_
    refine CJ_loopF (F := fun (i : Nat × List Nat × MB × Nat × Option Addr × Nat) => ⟨[(0, .pointer (some ⟨B, 0, none⟩)), (4, .pointer (some ⟨b1, 0, none⟩)), (7, .pointer (some ⟨b5, 0, none⟩)), (6, .pointer (some ⟨b3, 0, none⟩)), (8, .map (some im)), (11, .int .i64 (k : Nat)), (12, .pointer (some ⟨b8, 0, none⟩)), (74, .agg #[.int .i64 t.n0, .int .i64 t.n1, .int .i64 t.n2]), (75, .int .i64 (i.1 : Nat))], [cellsR b5 #[.slice i.2.2.2.2.1 i.2.1.length i.2.2.2.2.2, .slice none 0 0, .bool false] 85, rowR 3 1 i.2.2.2.2.1 i.2.1.length i.2.2.2.2.2 (Nv i.2.1), mapR im gI gBo i.2.2.1 i.2.2.2.1], []⟩) (I := fun (i : Nat × List Nat × MB × Nat × Option Addr × Nat) => i.1 ≤ 3 ∧ Bf pts tris (p1, p2) q0 i.2.1 k i.1 ∧ InL i.2.2.1 i.2.1 ∧ q1 <+: i.2.1) (m := fun (i : Nat × List Nat × MB × Nat × Option Addr × Nat) => 3 - i.1) (0, q1, L1, c1, some ⟨gr, 0, none⟩, cA1) (μr := [_, _, _, _]) ⟨Nat.zero_le _, hB, hL1, List.prefix_refl _⟩ (And.intro rfl (And.intro rfl (And.intro rfl (And.intro rfl (And.intro rfl (And.intro rfl (And.intro rfl (And.intro rfl (And.intro rfl (trivial)))))))))) (permI [1, 1, 1] rfl) (fun _ h => nomatch h) ?_
    rintro ⟨m, q2, L2, c2, A2, cA2⟩ ⟨hm, hB2, hL2, hqq⟩
    try dsimp only at hm
    try dsimp only at hB2
    try dsimp only at hL2
    try dsimp only at hqq
    show CJ _ _ _ [(0, .pointer (some ⟨B, 0, none⟩)), (4, .pointer (some ⟨b1, 0, none⟩)), (7, .pointer (some ⟨b5, 0, none⟩)), (6, .pointer (some ⟨b3, 0, none⟩)), (8, .map (some im)), (11, .int .i64 (k : Nat)), (12, .pointer (some ⟨b8, 0, none⟩)), (74, .agg #[.int .i64 t.n0, .int .i64 t.n1, .int .i64 t.n2]), (75, .int .i64 (m : Nat))] (cellsR b5 #[.slice A2 q2.length cA2, .slice none 0 0, .bool false] 85 :: rowR 3 1 A2 q2.length cA2 (Nv q2) :: mapR im gI gBo L2 c2 :: _ :: _ :: _ :: _ :: _) _
    refine CJ_seq ?_
    refine CJ_reg ?_
    refine LJ_y rfl rfl (YJ_bin rfl rfl rfl) ?_
    refine LJ_nil ?_
    refine QJ_then ?_
    refine CJ_seq ?_
    refine CJ_cond rfl (fun h76 => ?_) (fun h76 => ?_)
    ·simp only [decide_eq_true_eq] at h76
     have hk3 : m < 3 := by omega
     obtain ⟨u, hu, o, ho, ho2⟩ := hM.nb x t ht htv m hk3
     have hul := (List.getElem?_eq_some_iff.1 ho).1
     have hq2l := hB2.len
     have hx2 : q2[k]? = some x := by
      obtain ⟨rr, hrr⟩ := hqq
      rw [← hrr, List.getElem?_append_left (by omega)]
      exact hx
     refine CJ_skip ?_
     refine QJ_then ?_
     refine CJ_seq ?_
     refine CJ_block ?_
     refine CJ_seq ?_
     refine CJ_reg ?_
     refine LJ_y rfl rfl (YJ_move rfl) ?_
     refine LJ_y rfl rfl (YJ_index1 rfl rfl arrt_34 tyi_3 (by omega) (by omega) (n_get hk3)) ?_
     refine LJ_val (v := .int .i64 (u : Nat)) (congrArg (Value.int .i64) hu) ?_
     refine LJ_y rfl rfl (YJ_assign rfl) ?_
     refine LJ_y rfl rfl (YJ_assign rfl) ?_
     refine LJ_nil ?_
     refine QJ_then ?_
     refine CJ_seq ?_
     refine CJ_reg ?_
     refine LJ_y rfl rfl (YJ_move rfl) ?_
     refine LJ_y rfl rfl (YJ_move rfl) ?_
     refine LJ_y rfl rfl (YJ_lookup (f := gI) (g := gBo) (k := (u : Int)) rfl rfl umap_129 keyI zer_4 (MapAt_own (l := L2) (c := c2) m2) rfl) ?_
     refine LJ_val (v := .bool (decide (u ∈ q2))) (getD_mapB.trans (congrArg Value.bool (InL.at hL2 u))) ?_
     refine LJ_y rfl rfl (YJ_not rfl) ?_
     refine LJ_y rfl rfl (YJ_move rfl) ?_
     refine LJ_boolC (fun h83 => ?_) (fun h83 => ?_)
     ·simp only [decide_eq_false_iff_not, Bool.not_eq_true'] at h83
      refine LJ_y rfl rfl (YJ_move rfl) ?_
      refine LJ_y rfl rfl (YJ_fieldOwn rfl fld_37_2 rfl) ?_
      refine LJ_y rfl rfl (YJ_ixArr rfl rfl arrt_35 (by omega) (by omega) rfl) ?_
      refine LJ_y rfl rfl (YJ_load1 rfl tyi_4 m3 (fa_get (t := t) hk3)) ?_
      refine LJ_y rfl rfl (YJ_not rfl) ?_
      refine LJ_y rfl rfl (YJ_pickT rfl rfl) ?_
      refine LJ_y rfl rfl (YJ_move rfl) ?_
      refine LJ_boolC (fun h90 => ?_) (fun h90 => ?_)
      ·simp only [Bool.not_eq_true'] at h90
       refine LJ_y rfl rfl (YJ_move rfl) ?_
       refine LJ_y rfl rfl (YJ_move rfl) ?_
       refine LJ_y rfl rfl (YJ_loadN (vs := [_, _]) rfl tyi_23 m4 rfl rfl) ?_
       refine LJ_call0 rfl rfl rfl rfl rfl (conflict_c (h := h) hP ho (hM.ok u o ho ho2) (by omega) hp) (fun r h => h) ?_
       refine LJ_val (v := .bool (cfN pts tris (p1, p2) u)) (congrArg Value.bool (cfN_at ho).symm) ?_
       refine LJ_y rfl rfl (YJ_pickT rfl rfl) ?_
       refine LJ_nil ?_
       refine QJ_then ?_
       refine CJ_cond rfl (fun h95 => ?_) (fun h95 => ?_)
       ·skip
        refine CJ_seq ?_
        refine CJ_reg ?_
        refine LJ_y rfl rfl (YJ_move rfl) ?_
        refine LJ_y rfl rfl (YJ_move rfl) ?_
        refine LJ_mapUpdate (f := gI) (g := gBo) (k := (u : Int)) (v := true) 2 rfl rfl rfl rfl rfl umap_129 keyI rfl rfl ?_
        show LJ _ _ _ _ _ (_ :: _ :: _ :: _ :: _ :: _ :: _ :: _) _
        refine LJ_nil ?_
        refine QJ_then ?_
        refine CJ_reg ?_
        refine LJ_y rfl rfl (YJ_fieldOwn rfl fld_85_0 rfl) ?_
        refine LJ_y rfl rfl (YJ_loadL rfl tyi_55 m0 rfl) ?_
        refine LJ_y rfl rfl (YJ_move rfl) ?_
        refine LJ_buildSlice (cs := [_]) rfl rfl elt_55 zer_3 rfl (by decide) (pvs := [(_, _)]) rfl rfl rfl ?_
        intro b9
        refine LJ_append 2 rfl rfl elt_55 zer_3 rfl rfl rfl rfl (Rd_own m0) rfl rfl (by omega) (by omega) (by decide) (Nv_app q2 u) ?_
        intro A7 c7
        show LJ _ _ _ _ _ (_ :: _ :: _ :: _ :: _ :: _ :: _ :: _ :: _) _
        rw [show q2.length + 1 = (q2 ++ [u]).length by rw [List.length_append]; rfl]
        refine LJ_y rfl rfl (YJ_fieldOwn rfl fld_85_0 rfl) ?_
        refine LJ_store (cs' := #[_, _, _]) (μ' := [_, _, _, _, _, _, _, _]) 1 rfl rfl rfl rfl tyi_55 rfl (Nat.le_of_ble_eq_true rfl) rfl rfl rfl ?_
        refine LJ_nil ?_
        refine QJ_in_normal ?_
        refine QJ_then ?_
        refine CJ_reg ?_
        refine LJ_y rfl rfl (YJ_bin rfl rfl (iop_add (by omega))) ?_
        refine LJ_y rfl rfl (YJ_move rfl) ?_
        refine LJ_nil ?_
        refine QJ_roundF (F := fun (i : Nat × List Nat × MB × Nat × Option Addr × Nat) => ⟨[(0, .pointer (some ⟨B, 0, none⟩)), (4, .pointer (some ⟨b1, 0, none⟩)), (7, .pointer (some ⟨b5, 0, none⟩)), (6, .pointer (some ⟨b3, 0, none⟩)), (8, .map (some im)), (11, .int .i64 (k : Nat)), (12, .pointer (some ⟨b8, 0, none⟩)), (74, .agg #[.int .i64 t.n0, .int .i64 t.n1, .int .i64 t.n2]), (75, .int .i64 (i.1 : Nat))], [cellsR b5 #[.slice i.2.2.2.2.1 i.2.1.length i.2.2.2.2.2, .slice none 0 0, .bool false] 85, rowR 3 1 i.2.2.2.2.1 i.2.1.length i.2.2.2.2.2 (Nv i.2.1), mapR im gI gBo i.2.2.1 i.2.2.2.1], []⟩) (I := fun (i : Nat × List Nat × MB × Nat × Option Addr × Nat) => i.1 ≤ 3 ∧ Bf pts tris (p1, p2) q0 i.2.1 k i.1 ∧ InL i.2.2.1 i.2.1 ∧ q1 <+: i.2.1) (m := fun (i : Nat × List Nat × MB × Nat × Option Addr × Nat) => 3 - i.1) (i := (m, q2, L2, c2, A2, cA2)) ((m + 1, q2 ++ [u], mput (u : Int) true L2 c2, mclk (u : Int) L2 c2, A7, c7)) (μd := [_]) ⟨by omega, hB2.push hk3 hx2 ht hu h83 ⟨o, ho, ho2⟩ h90 h95, hL2.put u c2, hqq.trans (List.prefix_append _ _)⟩ (by dsimp only; omega) (And.intro rfl (And.intro rfl (And.intro rfl (And.intro rfl (And.intro rfl (And.intro rfl (And.intro rfl (And.intro rfl (And.intro rfl (trivial)))))))))) (permI [1, 1, 1, 1, 1, 1, 1] rfl) (fun _ h => nomatch h) (fun _ h => h)
       ·skip
        refine CJ_skip ?_
        refine QJ_in_normal ?_
        refine QJ_then ?_
        refine CJ_reg ?_
        refine LJ_y rfl rfl (YJ_bin rfl rfl (iop_add (by omega))) ?_
        refine LJ_y rfl rfl (YJ_move rfl) ?_
        refine LJ_nil ?_
        refine QJ_roundF (F := fun (i : Nat × List Nat × MB × Nat × Option Addr × Nat) => ⟨[(0, .pointer (some ⟨B, 0, none⟩)), (4, .pointer (some ⟨b1, 0, none⟩)), (7, .pointer (some ⟨b5, 0, none⟩)), (6, .pointer (some ⟨b3, 0, none⟩)), (8, .map (some im)), (11, .int .i64 (k : Nat)), (12, .pointer (some ⟨b8, 0, none⟩)), (74, .agg #[.int .i64 t.n0, .int .i64 t.n1, .int .i64 t.n2]), (75, .int .i64 (i.1 : Nat))], [cellsR b5 #[.slice i.2.2.2.2.1 i.2.1.length i.2.2.2.2.2, .slice none 0 0, .bool false] 85, rowR 3 1 i.2.2.2.2.1 i.2.1.length i.2.2.2.2.2 (Nv i.2.1), mapR im gI gBo i.2.2.1 i.2.2.2.1], []⟩) (I := fun (i : Nat × List Nat × MB × Nat × Option Addr × Nat) => i.1 ≤ 3 ∧ Bf pts tris (p1, p2) q0 i.2.1 k i.1 ∧ InL i.2.2.1 i.2.1 ∧ q1 <+: i.2.1) (m := fun (i : Nat × List Nat × MB × Nat × Option Addr × Nat) => 3 - i.1) (i := (m, q2, L2, c2, A2, cA2)) ((m + 1, q2, L2, c2, A2, cA2)) (μd := []) ⟨by omega, hB2.skip hx2 ht hu (.inr (.inr h95)), hL2, hqq⟩ (by dsimp only; omega) (And.intro rfl (And.intro rfl (And.intro rfl (And.intro rfl (And.intro rfl (And.intro rfl (And.intro rfl (And.intro rfl (And.intro rfl (trivial)))))))))) (permI [] rfl) (fun _ h => nomatch h) (fun _ h => h)
      ·simp only [Bool.not_eq_false'] at h90
       refine LJ_skip rfl rfl ?_
       refine LJ_skip rfl rfl ?_
       refine LJ_skip rfl rfl ?_
       refine LJ_skip rfl rfl ?_
       refine LJ_y rfl rfl (YJ_pickF rfl rfl) ?_
       refine LJ_nil ?_
       refine QJ_then ?_
       refine CJ_condF rfl ?_
       refine CJ_skip ?_
       refine QJ_in_normal ?_
       refine QJ_then ?_
       refine CJ_reg ?_
       refine LJ_y rfl rfl (YJ_bin rfl rfl (iop_add (by omega))) ?_
       refine LJ_y rfl rfl (YJ_move rfl) ?_
       refine LJ_nil ?_
       refine QJ_roundF (F := fun (i : Nat × List Nat × MB × Nat × Option Addr × Nat) => ⟨[(0, .pointer (some ⟨B, 0, none⟩)), (4, .pointer (some ⟨b1, 0, none⟩)), (7, .pointer (some ⟨b5, 0, none⟩)), (6, .pointer (some ⟨b3, 0, none⟩)), (8, .map (some im)), (11, .int .i64 (k : Nat)), (12, .pointer (some ⟨b8, 0, none⟩)), (74, .agg #[.int .i64 t.n0, .int .i64 t.n1, .int .i64 t.n2]), (75, .int .i64 (i.1 : Nat))], [cellsR b5 #[.slice i.2.2.2.2.1 i.2.1.length i.2.2.2.2.2, .slice none 0 0, .bool false] 85, rowR 3 1 i.2.2.2.2.1 i.2.1.length i.2.2.2.2.2 (Nv i.2.1), mapR im gI gBo i.2.2.1 i.2.2.2.1], []⟩) (I := fun (i : Nat × List Nat × MB × Nat × Option Addr × Nat) => i.1 ≤ 3 ∧ Bf pts tris (p1, p2) q0 i.2.1 k i.1 ∧ InL i.2.2.1 i.2.1 ∧ q1 <+: i.2.1) (m := fun (i : Nat × List Nat × MB × Nat × Option Addr × Nat) => 3 - i.1) (i := (m, q2, L2, c2, A2, cA2)) ((m + 1, q2, L2, c2, A2, cA2)) (μd := []) ⟨by omega, hB2.skip hx2 ht hu (.inr (.inl h90)), hL2, hqq⟩ (by dsimp only; omega) (And.intro rfl (And.intro rfl (And.intro rfl (And.intro rfl (And.intro rfl (And.intro rfl (And.intro rfl (And.intro rfl (And.intro rfl (trivial)))))))))) (permI [] rfl) (fun _ h => nomatch h) (fun _ h => h)
     ·simp only [decide_eq_true_eq, Bool.not_eq_false'] at h83
      refine LJ_skip rfl rfl ?_
      refine LJ_skip rfl rfl ?_
      refine LJ_skip rfl rfl ?_
      refine LJ_skip rfl rfl ?_
      refine LJ_skip rfl rfl ?_
      refine LJ_y rfl rfl (YJ_pickF rfl rfl) ?_
      refine LJ_y rfl rfl (YJ_move rfl) ?_
      refine LJ_skip rfl rfl ?_
      refine LJ_skip rfl rfl ?_
      refine LJ_skip rfl rfl ?_
      refine LJ_skip rfl rfl ?_
      refine LJ_y rfl rfl (YJ_pickF rfl rfl) ?_
      refine LJ_nil ?_
      refine QJ_then ?_
      refine CJ_condF rfl ?_
      refine CJ_skip ?_
      refine QJ_in_normal ?_
      refine QJ_then ?_
      refine CJ_reg ?_
      refine LJ_y rfl rfl (YJ_bin rfl rfl (iop_add (by omega))) ?_
      refine LJ_y rfl rfl (YJ_move rfl) ?_
      refine LJ_nil ?_
      refine QJ_roundF (F := fun (i : Nat × List Nat × MB × Nat × Option Addr × Nat) => ⟨[(0, .pointer (some ⟨B, 0, none⟩)), (4, .pointer (some ⟨b1, 0, none⟩)), (7, .pointer (some ⟨b5, 0, none⟩)), (6, .pointer (some ⟨b3, 0, none⟩)), (8, .map (some im)), (11, .int .i64 (k : Nat)), (12, .pointer (some ⟨b8, 0, none⟩)), (74, .agg #[.int .i64 t.n0, .int .i64 t.n1, .int .i64 t.n2]), (75, .int .i64 (i.1 : Nat))], [cellsR b5 #[.slice i.2.2.2.2.1 i.2.1.length i.2.2.2.2.2, .slice none 0 0, .bool false] 85, rowR 3 1 i.2.2.2.2.1 i.2.1.length i.2.2.2.2.2 (Nv i.2.1), mapR im gI gBo i.2.2.1 i.2.2.2.1], []⟩) (I := fun (i : Nat × List Nat × MB × Nat × Option Addr × Nat) => i.1 ≤ 3 ∧ Bf pts tris (p1, p2) q0 i.2.1 k i.1 ∧ InL i.2.2.1 i.2.1 ∧ q1 <+: i.2.1) (m := fun (i : Nat × List Nat × MB × Nat × Option Addr × Nat) => 3 - i.1) (i := (m, q2, L2, c2, A2, cA2)) ((m + 1, q2, L2, c2, A2, cA2)) (μd := []) ⟨by omega, hB2.skip hx2 ht hu (.inl h83), hL2, hqq⟩ (by dsimp only; omega) (And.intro rfl (And.intro rfl (And.intro rfl (And.intro rfl (And.intro rfl (And.intro rfl (And.intro rfl (And.intro rfl (And.intro rfl (trivial)))))))))) (permI [] rfl) (fun _ h => nomatch h) (fun _ h => h)
    ·simp only [decide_eq_false_iff_not] at h76
     have hm3 : m = 3 := by omega
     have hq12 := hqq.length_le
     subst hm3
     refine CJ_exit ?_
     refine QJ_then_exit ?_
     refine QJ_then_exit ?_
     refine QJ_in_exit ?_
     refine QJ_in_normal ?_
     refine QJ_then ?_
     refine CJ_reg ?_
     refine LJ_y rfl rfl (YJ_move rfl) ?_
     refine LJ_y rfl rfl (YJ_bin rfl rfl (iop_add (by omega))) ?_
     refine LJ_y rfl rfl (YJ_assign rfl) ?_
     refine LJ_nil ?_
     refine QJ_roundF (F := fun (i : Nat × List Nat × MB × Nat × Option Addr × Nat) => ⟨[(0, .pointer (some ⟨B, 0, none⟩)), (4, .pointer (some ⟨b1, 0, none⟩)), (7, .pointer (some ⟨b5, 0, none⟩)), (6, .pointer (some ⟨b3, 0, none⟩)), (8, .map (some im)), (11, .int .i64 (i.1 : Nat))], [cellsR b5 #[.slice i.2.2.2.2.1 i.2.1.length i.2.2.2.2.2, .slice none 0 0, .bool false] 85, rowR 3 1 i.2.2.2.2.1 i.2.1.length i.2.2.2.2.2 (Nv i.2.1), mapR im gI gBo i.2.2.1 i.2.2.2.1], []⟩) (I := fun (i : Nat × List Nat × MB × Nat × Option Addr × Nat) => i.1 ≤ i.2.1.length ∧ Bf pts tris (p1, p2) q0 i.2.1 i.1 0 ∧ InL i.2.2.1 i.2.1) (m := fun (i : Nat × List Nat × MB × Nat × Option Addr × Nat) => tris.length - i.1) (i := _) ((k + 1, q2, L2, c2, A2, cA2)) (μd := [_]) ⟨by have := hB2.len; have := hq12; dsimp only; omega, hB2.next, hL2⟩ (by have := hB.len; dsimp only; omega) (And.intro rfl (And.intro rfl (And.intro rfl (And.intro rfl (And.intro rfl (And.intro rfl (trivial))))))) (permI [0, 0, 0, 1, 1, 1] rfl) (fun _ h => nomatch h) (fun _ h => h)
   ·simp only [decide_eq_false_iff_not] at h59
    have hk9 : k = q1.length := by omega
    have hq10 : 0 < q1.length := by
     obtain ⟨y, hy⟩ : ∃ y, y ∈ q0 := ⟨_, List.getElem_mem hq00⟩
     exact List.length_pos_of_mem (hB.ini y hy)
    have hq1l := hB.len
    refine CJ_exit ?_
    refine QJ_then_exit ?_
    refine QJ_then_exit ?_
    refine QJ_in_exit ?_
    refine QJ_then ?_
    refine CJ_seq ?_
    refine CJ_reg ?_
    refine LJ_y rfl rfl (YJ_fieldOwn rfl fld_85_0 rfl) ?_
    refine LJ_y rfl rfl (YJ_loadL rfl tyi_55 m0 rfl) ?_
    refine LJ_callP (μ1 := [_]) (μr := [_, _, _, _, _]) (permI [1] rfl) rfl rfl rfl rfl rfl (sortI_tri (zs := toI q1) (by unfold toI; rw [List.length_map]) (by omega) (by have := hB.len; omega)) (fun _ h => nomatch h) ?_
    rintro - -
    obtain ⟨ts, hts, htp, hto⟩ := toI_sort q1
    rw [← hts]
    have htl := htp.length_eq
    have hq1l := hB.len
    have hD := (show Bf pts tris (p1, p2) q0 q1 q1.length 0 from hk9 ▸ hB).done htp hto
    rw [← htl]
    show LJ _ _ _ _ _ (_ :: _ :: _ :: _ :: _ :: _ :: _) _
    refine LJ_nil ?_
    refine QJ_then ?_
    refine CJ_seq ?_
    refine CJ_freezeRowK (n' := ts.length) (xs' := Nv ts) 0 rfl rfl rfl ?_
    show CJ _ _ _ _ (_ :: _ :: _ :: _ :: _ :: _) _
    refine CJ_reg ?_
    refine LJ_makeMap rfl rfl ?_
    intro bm
    refine LJ_y rfl rfl (YJ_assign rfl) ?_
    refine LJ_nil ?_
    refine QJ_then ?_
    refine CJ_seq ?_
    refine CJ_reg ?_
    refine LJ_y rfl rfl (YJ_move rfl) ?_
    refine LJ_y rfl rfl (YJ_nilCheck rfl) ?_
    refine LJ_y rfl rfl (YJ_fieldOwn rfl fld_57_0 rfl) ?_
    refine LJ_y rfl rfl (YJ_loadFactP (A := some ⟨B, 0, none⟩) (j := 0) rfl rfl tyi_26 m1 rfl) ?_
    refine LJ_y rfl rfl (YJ_len rfl ulen_26 rfl) ?_
    refine LJ_y rfl rfl (YJ_assign rfl) ?_
    refine LJ_nil ?_
    refine QJ_then ?_
    refine CJ_seq ?_
    refine CJ_seq ?_
    refine CJ_reg ?_
    refine LJ_y rfl rfl (YJ_fieldOwn rfl fld_85_0 rfl) ?_
    refine LJ_y rfl rfl (YJ_loadL rfl tyi_55 m1 rfl) ?_
    refine LJ_y rfl rfl (YJ_len rfl ulen_55 rfl) ?_
    refine LJ_y rfl rfl (YJ_move rfl) ?_
    refine LJ_nil ?_
    refine QJ_then ?_
    refine CJ_block ?_
    refine CJ_loopF (F := fun (i : Nat × MS × Nat × Int × Bool) => ⟨[(0, .pointer (some ⟨B, 0, none⟩)), (4, .pointer (some ⟨b1, 0, none⟩)), (7, .pointer (some ⟨b5, 0, none⟩)), (6, .pointer (some ⟨b3, 0, none⟩)), (8, .map (some im)), (15, .map (some bm)), (16, .int .i64 i.2.2.2.1), (115, .slice A1 ts.length cA1), (116, .int .i64 ts.length), (117, .int .i64 (i.1 : Nat))], [mapR bm gI gS i.2.1 i.2.2.1, cellsR b5 #[.slice A1 ts.length cA1, .slice none 0 0, .bool i.2.2.2.2] 85], []⟩) (I := fun (i : Nat × MS × Nat × Int × Bool) => i.1 ≤ ts.length ∧ i.2 = dFold (cfN pts tris (p1, p2)) (pts.length : Nat) (sdL tris ts (ts.take i.1)) ∧ i.2.1.length ≤ 3 * i.1) (m := fun (i : Nat × MS × Nat × Int × Bool) => ts.length - i.1) (0, [], 0, (pts.length : Nat), false) (μr := [_, _, _, _]) ⟨Nat.zero_le _, rfl, Nat.le_refl _⟩ (And.intro rfl (And.intro rfl (And.intro rfl (And.intro rfl (And.intro rfl (And.intro rfl (And.intro rfl (And.intro rfl (And.intro rfl (And.intro rfl (trivial))))))))))) (permI [] rfl) (fun _ h => nomatch h) ?_
    rintro ⟨j, Lb, cb, le, cu⟩ ⟨hj, hF, hbl⟩
    try dsimp only at hj
    try dsimp only at hF
    try dsimp only at hbl
    show CJ _ _ _ [(0, .pointer (some ⟨B, 0, none⟩)), (4, .pointer (some ⟨b1, 0, none⟩)), (7, .pointer (some ⟨b5, 0, none⟩)), (6, .pointer (some ⟨b3, 0, none⟩)), (8, .map (some im)), (15, .map (some bm)), (16, .int .i64 le), (115, .slice A1 ts.length cA1), (116, .int .i64 ts.length), (117, .int .i64 (j : Nat))] (mapR bm gI gS Lb cb :: cellsR b5 #[.slice A1 ts.length cA1, .slice none 0 0, .bool cu] 85 :: _ :: _ :: _ :: _ :: _) _
    refine CJ_seq ?_
    refine CJ_reg ?_
    refine LJ_y rfl rfl (YJ_bin rfl rfl rfl) ?_
    refine LJ_nil ?_
    refine QJ_then ?_
    refine CJ_seq ?_
    refine CJ_cond rfl (fun h118 => ?_) (fun h118 => ?_)
    ·simp only [decide_eq_true_eq] at h118
     obtain ⟨x, hx⟩ : ∃ x, ts[j]? = some x := ⟨_, List.getElem?_eq_getElem (by omega)⟩
     obtain ⟨t, ht, htv⟩ := hD.lv x (List.mem_of_getElem? hx)
     have hxl := (List.getElem?_eq_some_iff.1 ht).1
     refine CJ_skip ?_
     refine QJ_then ?_
     refine CJ_seq ?_
     refine CJ_block ?_
     refine CJ_seq ?_
     refine CJ_reg ?_
     refine LJ_y rfl rfl (YJ_ixFact (n' := ts.length) rfl rfl elt_55 m0 (by decide) (by omega) (by omega) (by omega)) ?_
     refine LJ_y rfl rfl (YJ_loadFactP (A := A1) (j := j) rfl (congrArg _ (by omega)) tyi_3 m0 (Nv_at hx)) ?_
     refine LJ_y rfl rfl (YJ_assign rfl) ?_
     refine LJ_nil ?_
     refine QJ_then ?_
     refine CJ_seq ?_
     refine CJ_reg ?_
     refine LJ_y rfl rfl (YJ_move rfl) ?_
     refine LJ_y rfl rfl (YJ_nilCheck rfl) ?_
     refine LJ_y rfl rfl (YJ_fieldOwn rfl fld_57_1 rfl) ?_
     refine LJ_y rfl rfl (YJ_loadFactP (A := some ⟨B, 0, none⟩) (j := 1) rfl rfl tyi_54 m1 rfl) ?_
     refine LJ_y rfl rfl (YJ_move rfl) ?_
     refine LJ_y rfl rfl (YJ_ixFact rfl rfl elt_54 m3 (by decide) (by omega) (by omega) (by omega)) ?_
     refine LJ_y rfl rfl (YJ_loadFactN (vs := [.int .i64 t.v0, .int .i64 t.v1, .int .i64 t.v2, .int .i64 t.n0, .int .i64 t.n1, .int .i64 t.n2, .bool t.f0, .bool t.f1, .bool t.f2]) (xs := trCells tris) rfl tyi_37 m3 (trCells_row (cast_idx ht)) rfl) ?_
     refine LJ_alloc (cs := #[_, _, _, _, _, _, _, _, _]) rfl rfl zer_37 rfl ?_
     intro b11
     refine LJ_store (cs' := #[.int .i64 t.v0, .int .i64 t.v1, .int .i64 t.v2, .int .i64 t.n0, .int .i64 t.n1, .int .i64 t.n2, .bool t.f0, .bool t.f1, .bool t.f2]) (μ' := [_, _, _, _, _, _, _]) 0 rfl rfl rfl rfl tyi_37 rfl (Nat.le_of_ble_eq_true rfl) rfl (wr_all rfl) rfl ?_
     refine LJ_nil ?_
     refine QJ_then ?_
     refine CJ_seq ?_
     refine CJ_reg ?_
     refine LJ_y rfl rfl (YJ_fieldOwn rfl fld_37_1 rfl) ?_
     refine LJ_y rfl rfl (YJ_loadN (vs := [_, _, _]) rfl tyi_34 m0 rfl rfl) ?_
     refine LJ_y rfl rfl (YJ_move rfl) ?_
     refine LJ_nil ?_
     refine QJ_then ?_
     refine CJ_block ?_
     refine CJ_loopF (F := fun (i : Nat × MS × Nat × Int × Bool) => ⟨[(0, .pointer (some ⟨B, 0, none⟩)), (4, .pointer (some ⟨b1, 0, none⟩)), (7, .pointer (some ⟨b5, 0, none⟩)), (6, .pointer (some ⟨b3, 0, none⟩)), (8, .map (some im)), (15, .map (some bm)), (16, .int .i64 i.2.2.2.1), (18, .int .i64 (x : Nat)), (19, .pointer (some ⟨b11, 0, none⟩)), (115, .slice A1 ts.length cA1), (116, .int .i64 ts.length), (117, .int .i64 (j : Nat)), (129, .agg #[.int .i64 t.n0, .int .i64 t.n1, .int .i64 t.n2]), (130, .int .i64 (i.1 : Nat))], [mapR bm gI gS i.2.1 i.2.2.1, cellsR b5 #[.slice A1 ts.length cA1, .slice none 0 0, .bool i.2.2.2.2] 85], []⟩) (I := fun (i : Nat × MS × Nat × Int × Bool) => i.1 ≤ 3 ∧ i.2 = dFold (cfN pts tris (p1, p2)) (pts.length : Nat) (sdL tris ts (ts.take j) ++ sdK tris ts t x i.1) ∧ i.2.1.length ≤ 3 * j + i.1) (m := fun (i : Nat × MS × Nat × Int × Bool) => 3 - i.1) (0, Lb, cb, le, cu) (μr := [_, _, _, _, _]) ⟨Nat.zero_le _, by dsimp only; rw [hF]; simp [sdK], by dsimp only; omega⟩ (And.intro rfl (And.intro rfl (And.intro rfl (And.intro rfl (And.intro rfl (And.intro rfl (And.intro rfl (And.intro rfl (And.intro rfl (And.intro rfl (And.intro rfl (And.intro rfl (And.intro rfl (And.intro rfl (trivial))))))))))))))) (permI [1, 1] rfl) (fun _ h => nomatch h) ?_
     rintro ⟨k, Lb1, cb1, le1, cu1⟩ ⟨hk, hF1, hbl1⟩
     try dsimp only at hk
     try dsimp only at hF1
     try dsimp only at hbl1
     show CJ _ _ _ [(0, .pointer (some ⟨B, 0, none⟩)), (4, .pointer (some ⟨b1, 0, none⟩)), (7, .pointer (some ⟨b5, 0, none⟩)), (6, .pointer (some ⟨b3, 0, none⟩)), (8, .map (some im)), (15, .map (some bm)), (16, .int .i64 le1), (18, .int .i64 (x : Nat)), (19, .pointer (some ⟨b11, 0, none⟩)), (115, .slice A1 ts.length cA1), (116, .int .i64 ts.length), (117, .int .i64 (j : Nat)), (129, .agg #[.int .i64 t.n0, .int .i64 t.n1, .int .i64 t.n2]), (130, .int .i64 (k : Nat))] (mapR bm gI gS Lb1 cb1 :: cellsR b5 #[.slice A1 ts.length cA1, .slice none 0 0, .bool cu1] 85 :: _ :: _ :: _ :: _ :: _ :: _) _
     refine CJ_seq ?_
     refine CJ_reg ?_
     refine LJ_y rfl rfl (YJ_bin rfl rfl rfl) ?_
     refine LJ_nil ?_
     refine QJ_then ?_
     refine CJ_seq ?_
     refine CJ_cond rfl (fun h131 => ?_) (fun h131 => ?_)
     ·simp only [decide_eq_true_eq] at h131
      have hk3 : k < 3 := by omega
      obtain ⟨u, hu, o, ho, ho2⟩ := hM.nb x t ht htv k hk3
      have hul := (List.getElem?_eq_some_iff.1 ho).1
      refine CJ_skip ?_
      refine QJ_then ?_
      refine CJ_seq ?_
      refine CJ_block ?_
      refine CJ_seq ?_
      refine CJ_reg ?_
      refine LJ_y rfl rfl (YJ_move rfl) ?_
      refine LJ_y rfl rfl (YJ_index1 rfl rfl arrt_34 tyi_3 (by omega) (by omega) (n_get hk3)) ?_
      refine LJ_val (v := .int .i64 (u : Nat)) (congrArg (Value.int .i64) hu) ?_
      refine LJ_y rfl rfl (YJ_assign rfl) ?_
      refine LJ_y rfl rfl (YJ_assign rfl) ?_
      refine LJ_nil ?_
      refine QJ_then ?_
      refine CJ_seq ?_
      refine CJ_seq ?_
      refine CJ_reg ?_
      refine LJ_y rfl rfl (YJ_move rfl) ?_
      refine LJ_y rfl rfl (YJ_move rfl) ?_
      refine LJ_y rfl rfl (YJ_lookup (f := gI) (g := gBo) (k := (u : Int)) rfl rfl umap_129 keyI zer_4 (MapAt_own (l := L1) (c := c1) m3) rfl) ?_
      refine LJ_val (v := .bool (decide (u ∈ ts))) (getD_mapB.trans (congrArg Value.bool ((InL.at hL1 u).trans (decide_eq_decide.2 htp.mem_iff.symm)))) ?_
      refine LJ_nil ?_
      refine QJ_then ?_
      refine CJ_cond rfl (fun h136 => ?_) (fun h136 => ?_)
      ·simp only [decide_eq_true_eq] at h136
       refine CJ_exit ?_
       refine QJ_then_exit ?_
       refine QJ_in_exit ?_
       refine QJ_then ?_
       refine CJ_reg ?_
       refine LJ_y rfl rfl (YJ_bin rfl rfl (iop_add (by omega))) ?_
       refine LJ_y rfl rfl (YJ_move rfl) ?_
       refine LJ_nil ?_
       refine QJ_roundF (F := fun (i : Nat × MS × Nat × Int × Bool) => ⟨[(0, .pointer (some ⟨B, 0, none⟩)), (4, .pointer (some ⟨b1, 0, none⟩)), (7, .pointer (some ⟨b5, 0, none⟩)), (6, .pointer (some ⟨b3, 0, none⟩)), (8, .map (some im)), (15, .map (some bm)), (16, .int .i64 i.2.2.2.1), (18, .int .i64 (x : Nat)), (19, .pointer (some ⟨b11, 0, none⟩)), (115, .slice A1 ts.length cA1), (116, .int .i64 ts.length), (117, .int .i64 (j : Nat)), (129, .agg #[.int .i64 t.n0, .int .i64 t.n1, .int .i64 t.n2]), (130, .int .i64 (i.1 : Nat))], [mapR bm gI gS i.2.1 i.2.2.1, cellsR b5 #[.slice A1 ts.length cA1, .slice none 0 0, .bool i.2.2.2.2] 85], []⟩) (I := fun (i : Nat × MS × Nat × Int × Bool) => i.1 ≤ 3 ∧ i.2 = dFold (cfN pts tris (p1, p2)) (pts.length : Nat) (sdL tris ts (ts.take j) ++ sdK tris ts t x i.1) ∧ i.2.1.length ≤ 3 * j + i.1) (m := fun (i : Nat × MS × Nat × Int × Bool) => 3 - i.1) (i := (k, Lb1, cb1, le1, cu1)) ((k + 1, Lb1, cb1, le1, cu1)) (μd := []) ⟨by omega, by dsimp only; rw [sdK_in hu h136]; exact hF1, by dsimp only; omega⟩ (by dsimp only; omega) (And.intro rfl (And.intro rfl (And.intro rfl (And.intro rfl (And.intro rfl (And.intro rfl (And.intro rfl (And.intro rfl (And.intro rfl (And.intro rfl (And.intro rfl (And.intro rfl (And.intro rfl (And.intro rfl (trivial))))))))))))))) (permI [] rfl) (fun _ h => nomatch h) (fun _ h => h)
      ·simp only [decide_eq_false_iff_not] at h136
       refine CJ_skip ?_
       refine QJ_then ?_
       refine CJ_seq ?_
       refine CJ_regDA mix (by kernel_rfl) (fun _ _ _ _ _ h => h) _ _ (fun _ h => h) (fun _ h => h) [⟨18, 22, 89, #[.int .i64 0, .int .i64 0, .int .i64 0, .int .i64 0, .bool false]⟩] 19 rfl (And.intro ⟨_, _, _, _, rfl, zer_89, rfl⟩ (trivial)) rfl rfl ?_
       refine AA_y 0 rfl (by kernel_rfl) rfl rfl rfl (YJ_move rfl) ?_
       refine AA_y 1 rfl (by kernel_rfl) rfl rfl rfl (YJ_bin rfl rfl (iop_add (by omega))) ?_
       refine AA_y 2 rfl (by kernel_rfl) rfl rfl rfl (YJ_rem rfl rfl (by first | decide | omega)) ?_
       refine AA_val (v := .int .i64 (((k + 1) % 3 : Nat) : Int)) (congrArg (Value.int .i64) (tm3 (j := 1) hk3 (by decide))) ?_
       refine AA_y 3 rfl (by kernel_rfl) rfl rfl rfl (YJ_fieldOwn rfl fld_37_0 rfl) ?_
       refine AA_y 4 rfl (by kernel_rfl) rfl rfl rfl (YJ_ixArr rfl rfl arrt_34 (by omega) (by omega) rfl) ?_
       refine AA_y 5 rfl (by kernel_rfl) rfl rfl rfl (YJ_load1 rfl tyi_3 m2 (v_get (t := t) (Nat.mod_lt (k + 1) (by decide)))) ?_
       refine AA_y 6 rfl (by kernel_rfl) rfl rfl rfl (YJ_move rfl) ?_
       refine AA_y 7 rfl (by kernel_rfl) rfl rfl rfl (YJ_bin rfl rfl (iop_add (by omega))) ?_
       refine AA_y 8 rfl (by kernel_rfl) rfl rfl rfl (YJ_rem rfl rfl (by first | decide | omega)) ?_
       refine AA_val (v := .int .i64 (((k + 2) % 3 : Nat) : Int)) (congrArg (Value.int .i64) (tm3 (j := 2) hk3 (by decide))) ?_
       refine AA_y 9 rfl (by kernel_rfl) rfl rfl rfl (YJ_fieldOwn rfl fld_37_0 rfl) ?_
       refine AA_y 10 rfl (by kernel_rfl) rfl rfl rfl (YJ_ixArr rfl rfl arrt_34 (by omega) (by omega) rfl) ?_
       refine AA_y 11 rfl (by kernel_rfl) rfl rfl rfl (YJ_load1 rfl tyi_3 m2 (v_get (t := t) (Nat.mod_lt (k + 2) (by decide)))) ?_
       refine AA_y 12 rfl (by kernel_rfl) rfl rfl rfl (YJ_move rfl) ?_
       refine AA_y 13 rfl (by kernel_rfl) rfl rfl rfl (YJ_move rfl) ?_
       refine AA_y 14 rfl (by kernel_rfl) rfl rfl rfl (YJ_fieldOwn rfl fld_37_2 rfl) ?_
       refine AA_y 15 rfl (by kernel_rfl) rfl rfl rfl (YJ_ixArr rfl rfl arrt_35 (by omega) (by omega) rfl) ?_
       refine AA_y 16 rfl (by kernel_rfl) rfl rfl rfl (YJ_load1 rfl tyi_4 m2 (fa_get (t := t) hk3)) ?_
       refine AA_y 17 rfl (by kernel_rfl) rfl rfl rfl (YJ_build1 (cs := [_, _, _, _, _]) lay_89 rfl rfl rfl) ?_
       refine AA_end (by kernel_rfl) rfl ?_
       intro bs hbs
       obtain ⟨b12, rfl⟩ := len_1 hbs
       clear hbs
       show AJ _ _ _ _ _ _ _ ((22, .pointer (some ⟨b12, 0, none⟩)) :: _) (cellsR b12 _ _ :: _) _
       refine AJ_store (cs' := #[_, _, _, _, _]) (μ' := [_, _, _, _, _, _, _, _]) 19 0 rfl (by kernel_rfl) rfl rfl rfl rfl tyi_89 rfl (Nat.le_of_ble_eq_true rfl) rfl rfl rfl (fun _ => AllIn.sub (And.intro m1 (And.intro m2 (And.intro m3 (And.intro m4 (And.intro m5 (And.intro m6 (And.intro m7 (trivial))))))))) ?_
       refine AJ_done (by kernel_rfl) ?_
       refine QJ_then ?_
       refine CJ_seq ?_
       refine CJ_reg ?_
       refine LJ_y rfl rfl (YJ_move rfl) ?_
       refine LJ_y rfl rfl (YJ_nilCheck rfl) ?_
       refine LJ_y rfl rfl (YJ_fieldOwn rfl fld_57_1 rfl) ?_
       refine LJ_y rfl rfl (YJ_loadFactP (A := some ⟨B, 0, none⟩) (j := 1) rfl rfl tyi_54 m1 rfl) ?_
       refine LJ_y rfl rfl (YJ_move rfl) ?_
       refine LJ_y rfl rfl (YJ_ixFact rfl rfl elt_54 m3 (by decide) (by omega) (by omega) (by omega)) ?_
       refine LJ_y rfl rfl (YJ_fieldAddr rfl fld_37_1) ?_
       refine LJ_y rfl rfl (YJ_sliceArr rfl arrt_34) ?_
       refine LJ_val (v := .slice (some ⟨gT, u * 9 + 3, none⟩) 3 3) (by rw [hTg]; show Value.slice (some (((⟨gT, 0, none⟩ : Addr).add (((u : Nat) : Int).toNat * 9)).add 3)) 3 3 = _; rw [Addr.add_lit, Addr.add_lit]; simp) ?_
       refine LJ_y rfl rfl (YJ_move rfl) ?_
       refine LJ_addF (r := sliceR 9 h.T tris.length (trCells tris)) (r' := sliceR 1 (some ⟨gT, u * 9 + 3, none⟩) 3 (Iv [o.n0, o.n1, o.n2])) m3 (fun w S hh => sub_n ho w S (hTg ▸ hh)) ?_
       refine LJ_call0 rfl rfl rfl rfl rfl (index_gc (b := gT) (o := u * 9 + 3) (n := 3) (xs := [o.n0, o.n1, o.n2]) (x := (x : Int)) rfl (by decide) (by decide)) (AllIn.sub (And.intro m0 trivial)) ?_
       refine LJ_y rfl rfl (YJ_fieldOwn rfl fld_89_3 rfl) ?_
       refine LJ_store (cs' := #[_, _, _, _, _]) (μ' := [_, _, _, _, _, _, _, _]) 0 rfl rfl rfl rfl tyi_3 rfl (Nat.le_of_ble_eq_true rfl) rfl rfl rfl ?_
       refine LJ_nil ?_
       refine QJ_then ?_
       refine CJ_seq ?_
       refine CJ_reg ?_
       refine LJ_y rfl rfl (YJ_move rfl) ?_
       refine LJ_y rfl rfl (YJ_fieldOwn rfl fld_89_0 rfl) ?_
       refine LJ_y rfl rfl (YJ_loadL rfl tyi_3 m0 rfl) ?_
       refine LJ_y rfl rfl (YJ_loadN (vs := [_, _, _, _, _]) rfl tyi_89 m0 rfl rfl) ?_
       refine LJ_mapUpdate (f := gI) (g := gS) (k := (t.v ((k + 1) % 3))) (v := (t.v ((k + 1) % 3), t.v ((k + 2) % 3), (u : Int), Lib.idxOf [o.n0, o.n1, o.n2] (x : Int), t.fl k)) 1 rfl rfl rfl rfl rfl umap_131 keyI rfl rfl ?_
       show LJ _ _ _ _ _ (_ :: _ :: _ :: _ :: _ :: _ :: _ :: _ :: _) _
       refine LJ_nil ?_
       refine QJ_then ?_
       refine CJ_seq ?_
       refine CJ_reg ?_
       refine LJ_y rfl rfl (YJ_move rfl) ?_
       refine LJ_y rfl rfl (YJ_fieldOwn rfl fld_89_0 rfl) ?_
       refine LJ_y rfl rfl (YJ_loadL rfl tyi_3 m0 rfl) ?_
       refine LJ_y rfl rfl (YJ_min2 rfl rfl) ?_
       refine LJ_y rfl rfl (YJ_assign rfl) ?_
       refine LJ_nil ?_
       refine QJ_then ?_
       refine CJ_reg ?_
       refine LJ_y rfl rfl (YJ_fieldOwn rfl fld_85_2 rfl) ?_
       refine LJ_y rfl rfl (YJ_loadL rfl tyi_4 m2 rfl) ?_
       refine LJ_y rfl rfl (YJ_move rfl) ?_
       refine LJ_boolC (fun h176 => ?_) (fun h176 => ?_)
       ·skip
        refine LJ_skip rfl rfl ?_
        refine LJ_skip rfl rfl ?_
        refine LJ_skip rfl rfl ?_
        refine LJ_skip rfl rfl ?_
        refine LJ_skip rfl rfl ?_
        refine LJ_skip rfl rfl ?_
        refine LJ_skip rfl rfl ?_
        refine LJ_skip rfl rfl ?_
        refine LJ_y rfl rfl (YJ_pickT rfl rfl) ?_
        refine LJ_val (v := .bool (cu1 || (t.fl k && cfN pts tris (p1, p2) u))) (by rw [h176]; rfl) ?_
        refine LJ_y rfl rfl (YJ_fieldOwn rfl fld_85_2 rfl) ?_
        refine LJ_store (cs' := #[_, _, _]) (μ' := [_, _, _, _, _, _, _, _]) 2 rfl rfl rfl rfl tyi_4 rfl (Nat.le_of_ble_eq_true rfl) rfl rfl rfl ?_
        refine LJ_nil ?_
        refine QJ_in_normal ?_
        refine QJ_then ?_
        refine CJ_reg ?_
        refine LJ_y rfl rfl (YJ_bin rfl rfl (iop_add (by omega))) ?_
        refine LJ_y rfl rfl (YJ_move rfl) ?_
        refine LJ_nil ?_
        refine QJ_roundF (F := fun (i : Nat × MS × Nat × Int × Bool) => ⟨[(0, .pointer (some ⟨B, 0, none⟩)), (4, .pointer (some ⟨b1, 0, none⟩)), (7, .pointer (some ⟨b5, 0, none⟩)), (6, .pointer (some ⟨b3, 0, none⟩)), (8, .map (some im)), (15, .map (some bm)), (16, .int .i64 i.2.2.2.1), (18, .int .i64 (x : Nat)), (19, .pointer (some ⟨b11, 0, none⟩)), (115, .slice A1 ts.length cA1), (116, .int .i64 ts.length), (117, .int .i64 (j : Nat)), (129, .agg #[.int .i64 t.n0, .int .i64 t.n1, .int .i64 t.n2]), (130, .int .i64 (i.1 : Nat))], [mapR bm gI gS i.2.1 i.2.2.1, cellsR b5 #[.slice A1 ts.length cA1, .slice none 0 0, .bool i.2.2.2.2] 85], []⟩) (I := fun (i : Nat × MS × Nat × Int × Bool) => i.1 ≤ 3 ∧ i.2 = dFold (cfN pts tris (p1, p2)) (pts.length : Nat) (sdL tris ts (ts.take j) ++ sdK tris ts t x i.1) ∧ i.2.1.length ≤ 3 * j + i.1) (m := fun (i : Nat × MS × Nat × Int × Bool) => 3 - i.1) (i := (k, Lb1, cb1, le1, cu1)) ((k + 1, mput (t.v ((k + 1) % 3)) (t.v ((k + 1) % 3), t.v ((k + 2) % 3), (u : Int), Lib.idxOf [o.n0, o.n1, o.n2] (x : Int), t.fl k) Lb1 cb1, mclk (t.v ((k + 1) % 3)) Lb1 cb1, min le1 (t.v ((k + 1) % 3)), cu1 || (t.fl k && cfN pts tris (p1, p2) u))) (μd := [_]) ⟨by omega, by dsimp only; rw [sdK_out hu h136 ho, ← List.append_assoc, dFold_app, ← hF1]; rfl, by have := mput_len (k := t.v ((k + 1) % 3)) (v := (t.v ((k + 1) % 3), t.v ((k + 2) % 3), (u : Int), Lib.idxOf [o.n0, o.n1, o.n2] (x : Int), t.fl k)) (l := Lb1) (c := cb1); dsimp only; omega⟩ (by dsimp only; omega) (And.intro rfl (And.intro rfl (And.intro rfl (And.intro rfl (And.intro rfl (And.intro rfl (And.intro rfl (And.intro rfl (And.intro rfl (And.intro rfl (And.intro rfl (And.intro rfl (And.intro rfl (And.intro rfl (trivial))))))))))))))) (permI [1, 1, 1, 1, 1, 1, 1] rfl) (fun _ h => nomatch h) (fun _ h => .tail _ h)
       ·skip
        refine LJ_y rfl rfl (YJ_fieldOwn rfl fld_89_4 rfl) ?_
        refine LJ_y rfl rfl (YJ_loadL rfl tyi_4 m0 rfl) ?_
        refine LJ_y rfl rfl (YJ_move rfl) ?_
        refine LJ_boolC (fun h179 => ?_) (fun h179 => ?_)
        ·skip
         refine LJ_y rfl rfl (YJ_move rfl) ?_
         refine LJ_y rfl rfl (YJ_move rfl) ?_
         refine LJ_y rfl rfl (YJ_loadN (vs := [_, _]) rfl tyi_23 m5 rfl rfl) ?_
         refine LJ_call0 rfl rfl rfl rfl rfl (conflict_c (h := h) hP ho (hM.ok u o ho ho2) (by omega) hp) (fun r h => .tail _ (.tail _ h)) ?_
         refine LJ_val (v := .bool (cfN pts tris (p1, p2) u)) (congrArg Value.bool (cfN_at ho).symm) ?_
         refine LJ_y rfl rfl (YJ_pickT rfl rfl) ?_
         refine LJ_y rfl rfl (YJ_pickF rfl rfl) ?_
         refine LJ_val (v := .bool (cu1 || (t.fl k && cfN pts tris (p1, p2) u))) (by rw [h176, h179]; rfl) ?_
         refine LJ_y rfl rfl (YJ_fieldOwn rfl fld_85_2 rfl) ?_
         refine LJ_store (cs' := #[_, _, _]) (μ' := [_, _, _, _, _, _, _, _]) 2 rfl rfl rfl rfl tyi_4 rfl (Nat.le_of_ble_eq_true rfl) rfl rfl rfl ?_
         refine LJ_nil ?_
         refine QJ_in_normal ?_
         refine QJ_then ?_
         refine CJ_reg ?_
         refine LJ_y rfl rfl (YJ_bin rfl rfl (iop_add (by omega))) ?_
         refine LJ_y rfl rfl (YJ_move rfl) ?_
         refine LJ_nil ?_
         refine QJ_roundF (F := fun (i : Nat × MS × Nat × Int × Bool) => ⟨[(0, .pointer (some ⟨B, 0, none⟩)), (4, .pointer (some ⟨b1, 0, none⟩)), (7, .pointer (some ⟨b5, 0, none⟩)), (6, .pointer (some ⟨b3, 0, none⟩)), (8, .map (some im)), (15, .map (some bm)), (16, .int .i64 i.2.2.2.1), (18, .int .i64 (x : Nat)), (19, .pointer (some ⟨b11, 0, none⟩)), (115, .slice A1 ts.length cA1), (116, .int .i64 ts.length), (117, .int .i64 (j : Nat)), (129, .agg #[.int .i64 t.n0, .int .i64 t.n1, .int .i64 t.n2]), (130, .int .i64 (i.1 : Nat))], [mapR bm gI gS i.2.1 i.2.2.1, cellsR b5 #[.slice A1 ts.length cA1, .slice none 0 0, .bool i.2.2.2.2] 85], []⟩) (I := fun (i : Nat × MS × Nat × Int × Bool) => i.1 ≤ 3 ∧ i.2 = dFold (cfN pts tris (p1, p2)) (pts.length : Nat) (sdL tris ts (ts.take j) ++ sdK tris ts t x i.1) ∧ i.2.1.length ≤ 3 * j + i.1) (m := fun (i : Nat × MS × Nat × Int × Bool) => 3 - i.1) (i := (k, Lb1, cb1, le1, cu1)) ((k + 1, mput (t.v ((k + 1) % 3)) (t.v ((k + 1) % 3), t.v ((k + 2) % 3), (u : Int), Lib.idxOf [o.n0, o.n1, o.n2] (x : Int), t.fl k) Lb1 cb1, mclk (t.v ((k + 1) % 3)) Lb1 cb1, min le1 (t.v ((k + 1) % 3)), cu1 || (t.fl k && cfN pts tris (p1, p2) u))) (μd := [_]) ⟨by omega, by dsimp only; rw [sdK_out hu h136 ho, ← List.append_assoc, dFold_app, ← hF1]; rfl, by have := mput_len (k := t.v ((k + 1) % 3)) (v := (t.v ((k + 1) % 3), t.v ((k + 2) % 3), (u : Int), Lib.idxOf [o.n0, o.n1, o.n2] (x : Int), t.fl k)) (l := Lb1) (c := cb1); dsimp only; omega⟩ (by dsimp only; omega) (And.intro rfl (And.intro rfl (And.intro rfl (And.intro rfl (And.intro rfl (And.intro rfl (And.intro rfl (And.intro rfl (And.intro rfl (And.intro rfl (And.intro rfl (And.intro rfl (And.intro rfl (And.intro rfl (trivial))))))))))))))) (permI [1, 1, 1, 1, 1, 1, 1] rfl) (fun _ h => nomatch h) (fun _ h => .tail _ h)
        ·skip
         refine LJ_skip rfl rfl ?_
         refine LJ_skip rfl rfl ?_
         refine LJ_skip rfl rfl ?_
         refine LJ_skip rfl rfl ?_
         refine LJ_y rfl rfl (YJ_pickF rfl rfl) ?_
         refine LJ_y rfl rfl (YJ_pickF rfl rfl) ?_
         refine LJ_val (v := .bool (cu1 || (t.fl k && cfN pts tris (p1, p2) u))) (by rw [h176, h179]; rfl) ?_
         refine LJ_y rfl rfl (YJ_fieldOwn rfl fld_85_2 rfl) ?_
         refine LJ_store (cs' := #[_, _, _]) (μ' := [_, _, _, _, _, _, _, _]) 2 rfl rfl rfl rfl tyi_4 rfl (Nat.le_of_ble_eq_true rfl) rfl rfl rfl ?_
         refine LJ_nil ?_
         refine QJ_in_normal ?_
         refine QJ_then ?_
         refine CJ_reg ?_
         refine LJ_y rfl rfl (YJ_bin rfl rfl (iop_add (by omega))) ?_
         refine LJ_y rfl rfl (YJ_move rfl) ?_
         refine LJ_nil ?_
         refine QJ_roundF (F := fun (i : Nat × MS × Nat × Int × Bool) => ⟨[(0, .pointer (some ⟨B, 0, none⟩)), (4, .pointer (some ⟨b1, 0, none⟩)), (7, .pointer (some ⟨b5, 0, none⟩)), (6, .pointer (some ⟨b3, 0, none⟩)), (8, .map (some im)), (15, .map (some bm)), (16, .int .i64 i.2.2.2.1), (18, .int .i64 (x : Nat)), (19, .pointer (some ⟨b11, 0, none⟩)), (115, .slice A1 ts.length cA1), (116, .int .i64 ts.length), (117, .int .i64 (j : Nat)), (129, .agg #[.int .i64 t.n0, .int .i64 t.n1, .int .i64 t.n2]), (130, .int .i64 (i.1 : Nat))], [mapR bm gI gS i.2.1 i.2.2.1, cellsR b5 #[.slice A1 ts.length cA1, .slice none 0 0, .bool i.2.2.2.2] 85], []⟩) (I := fun (i : Nat × MS × Nat × Int × Bool) => i.1 ≤ 3 ∧ i.2 = dFold (cfN pts tris (p1, p2)) (pts.length : Nat) (sdL tris ts (ts.take j) ++ sdK tris ts t x i.1) ∧ i.2.1.length ≤ 3 * j + i.1) (m := fun (i : Nat × MS × Nat × Int × Bool) => 3 - i.1) (i := (k, Lb1, cb1, le1, cu1)) ((k + 1, mput (t.v ((k + 1) % 3)) (t.v ((k + 1) % 3), t.v ((k + 2) % 3), (u : Int), Lib.idxOf [o.n0, o.n1, o.n2] (x : Int), t.fl k) Lb1 cb1, mclk (t.v ((k + 1) % 3)) Lb1 cb1, min le1 (t.v ((k + 1) % 3)), cu1 || (t.fl k && cfN pts tris (p1, p2) u))) (μd := [_]) ⟨by omega, by dsimp only; rw [sdK_out hu h136 ho, ← List.append_assoc, dFold_app, ← hF1]; rfl, by have := mput_len (k := t.v ((k + 1) % 3)) (v := (t.v ((k + 1) % 3), t.v ((k + 2) % 3), (u : Int), Lib.idxOf [o.n0, o.n1, o.n2] (x : Int), t.fl k)) (l := Lb1) (c := cb1); dsimp only; omega⟩ (by dsimp only; omega) (And.intro rfl (And.intro rfl (And.intro rfl (And.intro rfl (And.intro rfl (And.intro rfl (And.intro rfl (And.intro rfl (And.intro rfl (And.intro rfl (And.intro rfl (And.intro rfl (And.intro rfl (And.intro rfl (trivial))))))))))))))) (permI [1, 1, 1, 1, 1, 1, 1] rfl) (fun _ h => nomatch h) (fun _ h => .tail _ h)
     ·simp only [decide_eq_false_iff_not] at h131
      have hk3 : k = 3 := by omega
      subst hk3
      refine CJ_exit ?_
      refine QJ_then_exit ?_
      refine QJ_then_exit ?_
      refine QJ_in_exit ?_
      refine QJ_in_normal ?_
      refine QJ_then ?_
      refine CJ_reg ?_
      refine LJ_y rfl rfl (YJ_bin rfl rfl (iop_add (by omega))) ?_
      refine LJ_y rfl rfl (YJ_move rfl) ?_
      refine LJ_nil ?_
      refine QJ_roundF (F := fun (i : Nat × MS × Nat × Int × Bool) => ⟨[(0, .pointer (some ⟨B, 0, none⟩)), (4, .pointer (some ⟨b1, 0, none⟩)), (7, .pointer (some ⟨b5, 0, none⟩)), (6, .pointer (some ⟨b3, 0, none⟩)), (8, .map (some im)), (15, .map (some bm)), (16, .int .i64 i.2.2.2.1), (115, .slice A1 ts.length cA1), (116, .int .i64 ts.length), (117, .int .i64 (i.1 : Nat))], [mapR bm gI gS i.2.1 i.2.2.1, cellsR b5 #[.slice A1 ts.length cA1, .slice none 0 0, .bool i.2.2.2.2] 85], []⟩) (I := fun (i : Nat × MS × Nat × Int × Bool) => i.1 ≤ ts.length ∧ i.2 = dFold (cfN pts tris (p1, p2)) (pts.length : Nat) (sdL tris ts (ts.take i.1)) ∧ i.2.1.length ≤ 3 * i.1) (m := fun (i : Nat × MS × Nat × Int × Bool) => ts.length - i.1) (i := (j, Lb, cb, le, cu)) ((j + 1, Lb1, cb1, le1, cu1)) (μd := [_]) ⟨by omega, by dsimp only; rw [sdL_snoc hx ht]; exact hF1, by dsimp only; omega⟩ (by dsimp only; omega) (And.intro rfl (And.intro rfl (And.intro rfl (And.intro rfl (And.intro rfl (And.intro rfl (And.intro rfl (And.intro rfl (And.intro rfl (And.intro rfl (trivial))))))))))) (permI [0, 0, 1, 1, 1, 1] rfl) (fun _ h => nomatch h) (fun _ h => h)
    ·simp only [decide_eq_false_iff_not] at h118
     have hj9 : j = ts.length := by omega
     rw [hj9, List.take_length] at hF
     have hR : rimOf pts tris (p1, p2) ts = rimL Lb le Lb.length := by unfold rimOf dSt; rw [← hF]
     have hC : cutOf pts tris (p1, p2) ts = cu := by unfold cutOf dSt; rw [← hF]
     refine CJ_exit ?_
     refine QJ_then_exit ?_
     refine QJ_then_exit ?_
     refine QJ_in_exit ?_
     refine QJ_then ?_
     refine CJ_seq ?_
     refine CJ_seq ?_
     refine CJ_newRow 89 5 ?_
     refine CJ_reg ?_
     refine LJ_y rfl rfl (YJ_move rfl) ?_
     refine LJ_y rfl rfl (YJ_assign rfl) ?_
     refine LJ_nil ?_
     refine QJ_then ?_
     refine CJ_block ?_
     refine CJ_loopF (F := fun (i : Nat × Option Addr × Nat) => ⟨[(7, .pointer (some ⟨b5, 0, none⟩)), (6, .pointer (some ⟨b3, 0, none⟩)), (15, .map (some bm)), (23, .int .i64 (itS Lb i.1 le))], [cellsR b5 #[.slice A1 ts.length cA1, .slice i.2.1 i.1 i.2.2, .bool cu] 85, rowR 89 5 i.2.1 i.1 i.2.2 (sdCells (rimL Lb le i.1))], []⟩) (I := fun (i : Nat × Option Addr × Nat) => i.1 ≤ Lb.length) (m := fun (i : Nat × Option Addr × Nat) => Lb.length - i.1) (0, none, 0) (μr := [_, _, _, _, _]) (Nat.zero_le _) (And.intro rfl (And.intro rfl (And.intro rfl (And.intro rfl (trivial))))) (permI [2] rfl) (fun _ h => nomatch h) ?_
     rintro ⟨r, A0r, c0r⟩ hr
     try dsimp only at hr
     show CJ _ _ _ [(7, .pointer (some ⟨b5, 0, none⟩)), (6, .pointer (some ⟨b3, 0, none⟩)), (15, .map (some bm)), (23, .int .i64 (itS Lb r le))] (cellsR b5 #[.slice A1 ts.length cA1, .slice A0r r c0r, .bool cu] 85 :: rowR 89 5 A0r r c0r (sdCells (rimL Lb le r)) :: _ :: _ :: _ :: _ :: _ :: _) _
     refine CJ_seq ?_
     refine CJ_seq ?_
     refine CJ_reg ?_
     refine LJ_y rfl rfl (YJ_fieldOwn rfl fld_85_1 rfl) ?_
     refine LJ_y rfl rfl (YJ_loadL rfl tyi_83 m0 rfl) ?_
     refine LJ_y rfl rfl (YJ_len rfl ulen_83 rfl) ?_
     refine LJ_y rfl rfl (YJ_move rfl) ?_
     refine LJ_y rfl rfl (YJ_lenMap (f := gI) (g := gS) rfl umap_131 (MapAt_own (l := Lb) (c := cb) m2) rfl) ?_
     refine LJ_y rfl rfl (YJ_bin rfl rfl rfl) ?_
     refine LJ_nil ?_
     refine QJ_then ?_
     refine CJ_cond rfl (fun h195 => ?_) (fun h195 => ?_)
     ·simp only [decide_eq_true_eq] at h195
      refine CJ_skip ?_
      refine QJ_then ?_
      refine CJ_seq ?_
      refine CJ_block ?_
      refine CJ_reg ?_
      refine LJ_y rfl rfl (YJ_fieldOwn rfl fld_85_1 rfl) ?_
      refine LJ_y rfl rfl (YJ_loadL rfl tyi_83 m0 rfl) ?_
      refine LJ_y rfl rfl (YJ_move rfl) ?_
      refine LJ_y rfl rfl (YJ_move rfl) ?_
      refine LJ_y rfl rfl (YJ_lookup (f := gI) (g := gS) (k := (itS Lb r le)) rfl rfl umap_131 keyI zer_89 (MapAt_own (l := Lb) (c := cb) m2) rfl) ?_
      refine LJ_val (v := gS (getS Lb (itS Lb r le))) (getD_mapS) ?_
      refine LJ_buildSliceN (vs := [_]) (cs := [_, _, _, _, _]) rfl rfl elt_83 zer_89 (by decide) (by decide) rfl rfl rfl rfl rfl ?_
      intro b13
      refine LJ_append 2 rfl rfl elt_83 zer_89 rfl rfl rfl rfl (Rd_own m0) rfl rfl (by omega) (by omega) (by decide) ((sdCells_app _ (getS Lb (itS Lb r le))).trans (congrArg sdCells (rimL_succ Lb le r).symm)) ?_
      intro A8 c8
      show LJ _ _ _ _ _ (_ :: _ :: _ :: _ :: _ :: _ :: _ :: _ :: _) _
      refine LJ_y rfl rfl (YJ_fieldOwn rfl fld_85_1 rfl) ?_
      refine LJ_store (cs' := #[_, _, _]) (μ' := [_, _, _, _, _, _, _, _]) 1 rfl rfl rfl rfl tyi_83 rfl (Nat.le_of_ble_eq_true rfl) rfl rfl rfl ?_
      refine LJ_nil ?_
      refine QJ_in_normal ?_
      refine QJ_then ?_
      refine CJ_reg ?_
      refine LJ_y rfl rfl (YJ_move rfl) ?_
      refine LJ_y rfl rfl (YJ_move rfl) ?_
      refine LJ_y rfl rfl (YJ_lookup (f := gI) (g := gS) (k := (itS Lb r le)) rfl rfl umap_131 keyI zer_89 (MapAt_own (l := Lb) (c := cb) m3) rfl) ?_
      refine LJ_val (v := gS (getS Lb (itS Lb r le))) (getD_mapS) ?_
      refine LJ_y rfl rfl (YJ_fieldV rfl fldt_89_1 tyi_3 rfl) ?_
      refine LJ_y rfl rfl (YJ_assign rfl) ?_
      refine LJ_nil ?_
      refine QJ_roundF (F := fun (i : Nat × Option Addr × Nat) => ⟨[(7, .pointer (some ⟨b5, 0, none⟩)), (6, .pointer (some ⟨b3, 0, none⟩)), (15, .map (some bm)), (23, .int .i64 (itS Lb i.1 le))], [cellsR b5 #[.slice A1 ts.length cA1, .slice i.2.1 i.1 i.2.2, .bool cu] 85, rowR 89 5 i.2.1 i.1 i.2.2 (sdCells (rimL Lb le i.1))], []⟩) (I := fun (i : Nat × Option Addr × Nat) => i.1 ≤ Lb.length) (m := fun (i : Nat × Option Addr × Nat) => Lb.length - i.1) (i := (r, A0r, c0r)) ((r + 1, A8, c8)) (μd := [_]) (by dsimp only; omega) (by dsimp only; omega) (And.intro rfl (And.intro rfl (And.intro rfl (And.intro rfl (trivial))))) (permI [1, 1, 1, 1, 1, 1, 1] rfl) (fun _ h => nomatch h) (fun _ h => h)
     ·simp only [decide_eq_false_iff_not] at h195
      have hr9 : r = Lb.length := by omega
      subst hr9
      refine CJ_exit ?_
      refine QJ_then_exit ?_
      refine QJ_then_exit ?_
      refine QJ_in_exit ?_
      refine QJ_then ?_
      refine CJ_seq ?_
      refine CJ_freezeRowK (n' := Lb.length) (xs' := sdCells (rimL Lb le Lb.length)) 1 rfl rfl rfl ?_
      show CJ _ _ _ _ (_ :: _ :: _ :: _ :: _ :: _ :: _) _
      refine CJ_reg ?_
      refine LJ_y rfl rfl (YJ_loadN (vs := [_, _, _]) rfl tyi_85 m0 rfl rfl) ?_
      refine LJ_store (cs' := #[_, _, _]) (μ' := [_, _, _, _, _, _]) 5 rfl rfl rfl rfl tyi_85 rfl (Nat.le_of_ble_eq_true rfl) rfl rfl rfl ?_
      refine LJ_nil ?_
      refine QJ_then ?_
      refine CJ_ret ?_
      refine QJ_fin (.inl rfl) (μ' := []) (μr := _) (φ' := [sliceR 1 A1 ts.length (Nv ts), sliceR 5 A0r Lb.length (sdCells (rimL Lb le Lb.length))]) (res_cell (vs := [_, _, _]) rfl rfl m5 tyi_85 rfl) (List.Perm.refl _) (AllIn.sub (And.intro m1 (And.intro m0 trivial))) ?_
      exact ⟨(ts, A1, cA1, A0r, c0r), hD, by dsimp only; rw [hR, hC, rimL_len], rfl, by dsimp only; rw [hR, rimL_len]⟩
end Go.Proofs.Ytbanlhlggkdanaa
namespace Go.Proofs.Ytbanlhlggkdanaa
open Go.RowKit
theorem ent_39 : Enter Try.prog 39 = true := by kernel_rfl
theorem und_45 : (Try.prog.underlying 45).isSome = true := by kernel_rfl
theorem ent_38 : Enter Try.prog 38 = true := by kernel_rfl
theorem res_tcct {σ : List (Nat × Value)} {μ φ : List Res} {fn : Func} {P : Program} {t u r s : Tmp} {b c : Nat} {ct ct' dt dt' : TypeId} {n m : Nat} {vs ws : List Value} {v1 v2 : Value} (hfn : fn.results = #[.tmp t, .cell u ct, .cell r dt, .tmp s]) (h1 : lk t σ = some v1) (h2 : lk u σ = some (.pointer (some ⟨b, 0, none⟩))) (h3 : lk r σ = some (.pointer (some ⟨c, 0, none⟩))) (h4 : lk s σ = some v2)
  (m1 : cellsR b vs.toArray ct' ∈ μ) (m2 : cellsR c ws.toArray dt' ∈ μ) (k1 : tyi P ct = some (true, n)) (k2 : tyi P dt = some (true, m)) (l1 : vs.length = n) (l2 : ws.length = m) :
  ∀ a w, Slots σ a → Hold w μ → Hold w φ → (results fn a.tmps).run P w = .ok (.tuple #[v1, .agg vs.toArray, .agg ws.toArray, v2]) w := fun a w hs hmu _ => by
 obtain ⟨S, e1, _⟩ := hmu _ m1
 obtain ⟨S2, e2, _⟩ := hmu _ m2
 have q1 := hs t _ h1
 have q2 := hs u _ h2
 have q3 := hs r _ h3
 have q4 := hs s _ h4
 have r1 := run_loadVarN (P := P) (w := w) (a := ⟨b, 0, none⟩) k1 l1 (fun j v hj => by
  rw [Addr.add_lit, cell_of_row w b (0 + j) vs.toArray ct' (0, 0) e1]
  simpa using hj)
 have r2 := run_loadVarN (P := P) (w := w) (a := ⟨c, 0, none⟩) k2 l2 (fun j v hj => by
  rw [Addr.add_lit, cell_of_row w c (0 + j) ws.toArray dt' (0, 0) e2]
  simpa using hj)
 simp [results, hfn, q1, q2, q3, q4, asAddr, r1, r2]
section
variable {F : MapI} {W H : Nat} {f : Nat → Bool} {M : MD} {V : List (Nat × T3)}
theorem GM.okT (h : GM F W H f M V) : okTris M.pts M.tris := fun t ht hr => by
 have hv := h.vok t ht
 have q0 : t.v0 = -1 ∨ t.v0 = -2 ∨ (0 ≤ t.v0 ∧ t.v0 < M.pts.length) := hv 0 (by decide)
 have q1 : t.v1 = -1 ∨ t.v1 = -2 ∨ (0 ≤ t.v1 ∧ t.v1 < M.pts.length) := hv 1 (by decide)
 have q2 : t.v2 = -1 ∨ t.v2 = -2 ∨ (0 ≤ t.v2 ∧ t.v2 < M.pts.length) := hv 2 (by decide)
 obtain ⟨r0, r1, r2⟩ := hr
 refine ⟨?_, ?_, ?_⟩ <;> omega
end
abbrev MkT := Nat × MD × Mh × Nat
def mkOk (v : Int) (x : MkT) : Prop := ∃ F V, GM F (gW (v / 256)) (gW (v / 512)) (bitN v) x.2.1 V ∧ x.2.2.1.nf = x.2.1.free.length ∧ x.2.2.1.na = x.2.1.ats.length ∧ x.2.2.1.T = some ⟨x.2.2.2, 0, none⟩
set_option maxRecDepth 100000 in
set_option maxHeartbeats 8000000 in
theorem made11_c {v fa x y : Int} (hv : 0 ≤ v ∧ v < 4294967296) (hf : 0 ≤ fa ∧ fa < 4294967296) : Tri Try.prog 39 [.int .u32 v, .int .u32 fa, ptv x y] [] [] (RetX (fun q : MkT => mkOk v q) (fun q => .tuple #[.pointer (some ⟨q.1, 0, none⟩), ptv (tm x) (tm y), plV (look q.2.1.pts q.2.1.tris (tm x, tm y)), .bool (!decide ((look q.2.1.pts q.2.1.tris (tm x, tm y)).1 = 2))]) (fun _ => []) (fun q => frzFs q.1 q.2.1 q.2.2.1)) := by
 refine Tri_of (N := 40) Try.func39 rfl ent_39 rfl rfl ?_
 intro w0 S0 T0
 show CJ _ _ _ [(0, _), (1, _), (2, _)] _ _
 refine CJ_seq ?_
 refine CJ_reg ?_
 refine LJ_box (cs := #[_, _]) rfl rfl rfl rfl ?_
 intro b1
 refine LJ_y rfl rfl (YJ_assign rfl) ?_
 refine LJ_alloc (cs := #[_, _]) rfl rfl zer_23 rfl ?_
 intro b2
 refine LJ_alloc (cs := #[_, _, _, _]) rfl rfl zer_42 rfl ?_
 intro b3
 refine LJ_y rfl rfl (YJ_assign rfl) ?_
 refine LJ_nil ?_
 refine QJ_then ?_
 refine CJ_seq ?_
 refine CJ_reg ?_
 refine LJ_y rfl rfl (YJ_move rfl) ?_
 refine LJ_y rfl rfl (YJ_shr rfl rfl (by decide)) ?_
 refine LJ_y rfl rfl (YJ_convII rfl und_45 uint_3) ?_
 refine LJ_val (v := .int .i64 (v / 256)) (congrArg (Value.int .i64) (show IntKind.i64.wrap (v / 256) = v / 256 by rw [IntKind.wrap_i64]; omega)) ?_
 refine LJ_y rfl rfl (YJ_move rfl) ?_
 refine LJ_y rfl rfl (YJ_shr rfl rfl (by decide)) ?_
 refine LJ_y rfl rfl (YJ_convII rfl und_45 uint_3) ?_
 refine LJ_val (v := .int .i64 (v / 512)) (congrArg (Value.int .i64) (show IntKind.i64.wrap (v / 512) = v / 512 by rw [IntKind.wrap_i64]; omega)) ?_
 refine LJ_y rfl rfl (YJ_move rfl) ?_
 refine LJ_y rfl rfl (YJ_move rfl) ?_
 refine LJ_callP (μ1 := []) (μr := [_, _, _]) (permI [] rfl) rfl rfl rfl rfl rfl (grid_c (w := (v / 256)) (h := (v / 512)) (fa := fa) hv hf) (fun _ h => nomatch h) ?_
 rintro ⟨B9, F9, border, TA, cT⟩ ⟨hF9, hB9⟩
 dsimp only at hB9
 obtain ⟨V9, hG⟩ := grid_M (gW_or _) (gW_or _) hB9
 have hgp := (gPts_ok (gW_or ((v / 256))) (gW_or ((v / 512)))).2
 have hgl := (gPts_ok (gW_or ((v / 256))) (gW_or ((v / 512)))).1
 show LJ _ _ _ _ ((22, .tuple #[.pointer (some ⟨B9, 0, none⟩), .slice TA _ cT]) :: _) (meshR B9 (buildG F9 (gridR F9 (gW ((v / 256))) (gW ((v / 512))) (bitN v)) border).M :: _) _
 generalize (buildG F9 (gridR F9 (gW ((v / 256))) (gW ((v / 512))) (bitN v)) border).M = M9 at *
 rw [← hG.pts] at hgp hgl
 have hP : ∀ j, j < M9.pts.length → P2 (M9.pts.getD j (0, 0)).1 (M9.pts.getD j (0, 0)).2 := by
  intro j hj
  have := hgp (M9.pts.getD j (0, 0)) (by rw [List.getD_eq_getElem?_getD, List.getElem?_eq_getElem hj]; exact List.getElem_mem hj)
  exact ⟨⟨by omega, by omega⟩, ⟨by omega, by omega⟩⟩
 have hlen : M9.tris.length ≤ 1000000 := Nat.le_trans hG.len (by decide)
 have hal : M9.ats.length ≤ 1000000 := by
  rw [hG.ats, ← hG.pts]
  omega
 refine LJ_freezeMeshT (hG.four (gW_or _) (gW_or _)).2 (fun hm gT hmF hmA hTg => ?_)
 show LJ _ _ _ _ _ (_ :: _ :: _ :: _) _
 refine LJ_y rfl rfl (YJ_move rfl) ?_
 refine LJ_y rfl rfl (YJ_extract rfl rfl) ?_
 refine LJ_y rfl rfl (YJ_extract rfl rfl) ?_
 refine LJ_y rfl rfl (YJ_assign rfl) ?_
 refine LJ_y rfl rfl (YJ_assign rfl) ?_
 refine LJ_nil ?_
 refine QJ_then ?_
 refine CJ_seq ?_
 refine CJ_reg ?_
 refine LJ_y rfl rfl (YJ_loadN (vs := [_, _]) rfl tyi_23 m2 rfl rfl) ?_
 refine LJ_call0 rfl rfl rfl rfl rfl (tame_c (x := x) (y := y)) (fun _ h => nomatch h) ?_
 refine LJ_store (cs' := #[_, _]) (μ' := [_, _, _]) 2 rfl rfl rfl rfl tyi_23 rfl (Nat.le_of_ble_eq_true rfl) rfl rfl rfl ?_
 refine LJ_nil ?_
 refine QJ_then ?_
 refine CJ_seq ?_
 refine CJ_seq ?_
 refine CJ_reg ?_
 refine LJ_y rfl rfl (YJ_move rfl) ?_
 refine LJ_y rfl rfl (YJ_eqs rfl rfl (fun w => eqs_ptr ..)) ?_
 refine LJ_nil ?_
 refine QJ_then ?_
 refine CJ_condF rfl ?_
 refine CJ_skip ?_
 refine QJ_then ?_
 refine CJ_seq ?_
 refine CJ_reg ?_
 refine LJ_y rfl rfl (YJ_move rfl) ?_
 refine LJ_y rfl rfl (YJ_loadN (vs := [_, _]) rfl tyi_23 m2 rfl rfl) ?_
 refine LJ_call0 rfl rfl rfl rfl rfl (look_c (h := hm) hP hG.okT (by omega) (tm_p x y)) (fun r h => frz_mesh r h) ?_
 refine LJ_alloc (cs := #[_, _, _, _]) rfl rfl zer_42 rfl ?_
 intro b4
 refine LJ_store (cs' := #[_, _, _, _]) (μ' := [_, _, _, _]) 0 rfl rfl rfl rfl tyi_42 rfl (Nat.le_of_ble_eq_true rfl) rfl rfl rfl ?_
 refine LJ_nil ?_
 refine QJ_then ?_
 refine CJ_seq ?_
 refine CJ_regD mix (by kernel_rfl) (fun _ _ _ _ _ h => h) (selR [0, 3] _) _ (selR_sub _ _) (fun _ h => h) ?_
 refine AJ_y 0 rfl (by kernel_rfl) (by kernel_rfl) rfl rfl (YJ_move rfl) ?_
 refine AJ_y 1 rfl (by kernel_rfl) (by kernel_rfl) rfl rfl (YJ_loadN (vs := [_, _]) rfl tyi_23 m1 rfl rfl) ?_
 refine AJ_y 2 rfl (by kernel_rfl) (by kernel_rfl) rfl rfl (YJ_loadN (vs := [_, _, _, _]) rfl tyi_42 m0 rfl rfl) ?_
 refine AJ_y 3 rfl (by kernel_rfl) (by kernel_rfl) rfl rfl (YJ_fieldOwn rfl fld_42_0 rfl) ?_
 refine AJ_y 4 rfl (by kernel_rfl) (by kernel_rfl) rfl rfl (YJ_loadL rfl tyi_3 m0 rfl) ?_
 refine AJ_y 5 rfl (by kernel_rfl) (by kernel_rfl) rfl rfl (YJ_bin rfl rfl rfl) ?_
 refine AJ_y 6 rfl (by kernel_rfl) (by kernel_rfl) rfl rfl (YJ_assign rfl) ?_
 refine AJ_store (cs' := #[_, _]) (μ' := [_, _, _, _]) 7 2 rfl (by kernel_rfl) rfl rfl rfl rfl tyi_23 rfl (Nat.le_of_ble_eq_true rfl) rfl rfl rfl (fun _ => AllIn.sub (And.intro m0 (And.intro m3 (trivial)))) ?_
 refine AJ_store (cs' := #[_, _, _, _]) (μ' := [_, _, _, _]) 8 1 rfl (by kernel_rfl) rfl rfl rfl rfl tyi_42 rfl (Nat.le_of_ble_eq_true rfl) rfl rfl rfl (fun _ => AllIn.sub (And.intro m0 (And.intro m3 (trivial)))) ?_
 refine AJ_y 9 rfl (by kernel_rfl) (by kernel_rfl) rfl rfl (YJ_assign rfl) ?_
 refine AJ_done (by kernel_rfl) ?_
 refine QJ_then ?_
 refine CJ_ret ?_
 refine QJ_fin (.inl rfl) (μ' := []) (μr := _) (φ' := (frzFs B9 M9 hm)) (res_tcct (vs := [_, _]) (ws := [_, _, _, _]) rfl rfl rfl rfl rfl m2 m1 tyi_23 tyi_42 rfl rfl) (List.Perm.refl _) (fun r h => List.mem_append_left _ h) ?_
 exact ⟨(B9, M9, hm, gT), ⟨F9, V9, hG, hmF, hmA, hTg⟩, rfl, rfl, rfl⟩
abbrev fitR : List (Int × Int) := [(0, 0), (3, 0), (0, 3)]
theorem fitR_ok : ∀ j, j < fitR.length → P2 (fitR.getD j (0, 0)).1 (fitR.getD j (0, 0)).2 := by
 intro j hj
 have : j = 0 ∨ j = 1 ∨ j = 2 := by simp at hj; omega
 rcases this with rfl | rfl | rfl <;> exact by unfold P2 Tm; simp
theorem fitR_look : look fitR (triNew 0 1 2) (1, 1) = (0, 0, 0, 0) := by decide +kernel
theorem fitR_okT : okTris fitR (triNew 0 1 2) := fun t ht hr => by
 simp only [triNew, List.mem_cons, List.not_mem_nil, or_false] at ht
 rcases ht with rfl | rfl | rfl | rfl
 ·exact ⟨by decide, by decide, by decide⟩
 all_goals exact absurd hr (by unfold Tr.real; decide)
theorem fitR_ms : MsOk fitR (triNew 0 1 2) := by
 have key : ∀ n, n < 4 → ∀ t, (triNew 0 1 2)[n]? = some t → cfOk 3 t ∧ ∀ i, i < 3 → ∃ u : Nat, t.n i = (u : Int) ∧ lvT (triNew 0 1 2) u := by
  intro n hn t ht
  have h4 : ∀ u : Nat, u < 4 → lvT (triNew 0 1 2) u := fun u hu => match u, hu with
   | 0, _ => ⟨_, rfl, by decide⟩
   | 1, _ => ⟨_, rfl, by decide⟩
   | 2, _ => ⟨_, rfl, by decide⟩
   | 3, _ => ⟨_, rfl, by decide⟩
  match n, hn with
  | 0, _ =>
   obtain rfl := Option.some.inj ht
   exact ⟨⟨by unfold Tr.v; decide, by unfold Tr.v; decide⟩, fun i hi => match i, hi with
    | 0, _ => ⟨1, rfl, h4 1 (by decide)⟩
    | 1, _ => ⟨2, rfl, h4 2 (by decide)⟩
    | 2, _ => ⟨3, rfl, h4 3 (by decide)⟩⟩
  | 1, _ =>
   obtain rfl := Option.some.inj ht
   exact ⟨⟨by unfold Tr.v; decide, by unfold Tr.v; decide⟩, fun i hi => match i, hi with
    | 0, _ => ⟨3, rfl, h4 3 (by decide)⟩
    | 1, _ => ⟨2, rfl, h4 2 (by decide)⟩
    | 2, _ => ⟨0, rfl, h4 0 (by decide)⟩⟩
  | 2, _ =>
   obtain rfl := Option.some.inj ht
   exact ⟨⟨by unfold Tr.v; decide, by unfold Tr.v; decide⟩, fun i hi => match i, hi with
    | 0, _ => ⟨1, rfl, h4 1 (by decide)⟩
    | 1, _ => ⟨3, rfl, h4 3 (by decide)⟩
    | 2, _ => ⟨0, rfl, h4 0 (by decide)⟩⟩
  | 3, _ =>
   obtain rfl := Option.some.inj ht
   exact ⟨⟨by unfold Tr.v; decide, by unfold Tr.v; decide⟩, fun i hi => match i, hi with
    | 0, _ => ⟨2, rfl, h4 2 (by decide)⟩
    | 1, _ => ⟨1, rfl, h4 1 (by decide)⟩
    | 2, _ => ⟨0, rfl, h4 0 (by decide)⟩⟩
 have hl : ∀ n t, (triNew 0 1 2)[n]? = some t → n < 4 := fun n t ht => (List.getElem?_eq_some_iff.1 ht).1
 exact ⟨fun n t ht _ => (key n (hl n t ht) t ht).1, fun n t ht _ => (key n (hl n t ht) t ht).2⟩
theorem fitR_ts {ts : List Nat} (h : DgOk fitR (triNew 0 1 2) (1, 1) [0] ts) : ts = [0] := by
 have h1 : ∀ x, x ∈ ts → x = 0 := h.mn (· = 0) (fun x hx => by simpa using hx) (fun n t hn ht i hi u hu hf hc => by
  subst hn
  obtain rfl := Option.some.inj ht
  have : u = 1 ∨ u = 2 ∨ u = 3 := by
   match i, hi with
   | 0, _ => have : (1 : Int) = u := hu; omega
   | 1, _ => have : (2 : Int) = u := hu; omega
   | 2, _ => have : (3 : Int) = u := hu; omega
  rcases this with rfl | rfl | rfl
  ·exact absurd hc (by decide +kernel)
  ·exact absurd hc (by decide +kernel)
  ·exact absurd hc (by decide +kernel))
 have h0 := h.ini 0 (by simp)
 have hs := h.so
 match ts, h1, h0, hs with
 | [], _, h0, _ => simp at h0
 | [a], h1, _, _ => rw [h1 a (by simp)]
 | a :: b :: l, h1, _, hs =>
  have := h1 a (by simp)
  have := h1 b (by simp)
  have := (List.pairwise_cons.1 hs).1 b (by simp)
  omega
theorem fitR_rim : rimOf fitR (triNew 0 1 2) (1, 1) [0] = [(0, 1, 3, 2, false), (1, 2, 1, 2, false), (2, 0, 2, 2, false)] ∧ cutOf fitR (triNew 0 1 2) (1, 1) [0] = false := by decide +kernel
set_option maxRecDepth 100000 in
set_option maxHeartbeats 8000000 in
theorem fit11_c  : Tri Try.prog 38 [] [] [] (Ret0 (.bool true)) := by
 refine Tri_of (N := 60) Try.func38 rfl ent_38 rfl rfl ?_
 intro w0 S0 T0
 show CJ _ _ _ [] _ _
 refine CJ_seq ?_
 refine CJ_reg ?_
 refine LJ_y rfl rfl (YJ_assign rfl) ?_
 refine LJ_nil ?_
 refine QJ_then ?_
 refine CJ_seq ?_
 refine CJ_reg ?_
 refine LJ_y rfl rfl (YJ_build1 (cs := [_, _]) lay_23 rfl rfl rfl) ?_
 refine LJ_y rfl rfl (YJ_build1 (cs := [_, _]) lay_23 rfl rfl rfl) ?_
 refine LJ_y rfl rfl (YJ_build1 (cs := [_, _]) lay_23 rfl rfl rfl) ?_
 refine LJ_buildSliceN (vs := [_, _, _]) (cs := [_, _, _, _, _, _]) rfl rfl elt_26 zer_23 (by decide) (by decide) rfl rfl rfl rfl rfl ?_
 intro b1
 refine LJ_freeze ?_
 refine LJ_addF (r' := sliceR 2 (some ⟨b1, 0, none⟩) 3 (ptCells fitR)) (.head _) (fun w S h => cellsR_slice (n := 3) rfl w S h) ?_
 refine LJ_callN rfl rfl rfl rfl rfl (new_pos (pts := fitR) (a := 0) (b := 1) (c := 2) (by decide) (by decide) (by decide) (by decide) fitR_ok (by decide)) (fun r h => by rw [List.mem_singleton] at h; subst h; exact .head _) ?_
 intro Bm _
 refine LJ_freezeMeshT (show 0 < 4 by decide) (fun hm gT hmF hmA hTg => ?_)
 refine LJ_y rfl rfl (YJ_move rfl) ?_
 refine LJ_y rfl rfl (YJ_extract rfl rfl) ?_
 refine LJ_y rfl rfl (YJ_extract rfl rfl) ?_
 refine LJ_y rfl rfl (YJ_assign rfl) ?_
 refine LJ_y rfl rfl (YJ_assign rfl) ?_
 refine LJ_nil ?_
 refine QJ_then ?_
 refine CJ_seq ?_
 refine CJ_seq ?_
 refine CJ_reg ?_
 refine LJ_y rfl rfl (YJ_move rfl) ?_
 refine LJ_y rfl rfl (YJ_not rfl) ?_
 refine LJ_y rfl rfl (YJ_move rfl) ?_
 refine LJ_bool (c := false) rfl ?_
 refine LJ_y rfl rfl (YJ_move rfl) ?_
 refine LJ_y rfl rfl (YJ_eqs rfl rfl (fun w => eqs_ptr ..)) ?_
 refine LJ_y rfl rfl (YJ_pickF rfl rfl) ?_
 refine LJ_nil ?_
 refine QJ_then ?_
 refine CJ_condF rfl ?_
 refine CJ_skip ?_
 refine QJ_then ?_
 refine CJ_seq ?_
 refine CJ_reg ?_
 refine LJ_y rfl rfl (YJ_build1 (cs := [_, _]) lay_23 rfl rfl rfl) ?_
 refine LJ_alloc (cs := #[_, _]) rfl rfl zer_23 rfl ?_
 intro b2
 refine LJ_store (cs' := #[_, _]) (μ' := [_]) 0 rfl rfl rfl rfl tyi_23 rfl (Nat.le_of_ble_eq_true rfl) rfl rfl rfl ?_
 refine LJ_nil ?_
 refine QJ_then ?_
 refine CJ_seq ?_
 refine CJ_reg ?_
 refine LJ_y rfl rfl (YJ_move rfl) ?_
 refine LJ_y rfl rfl (YJ_loadN (vs := [_, _]) rfl tyi_23 m0 rfl rfl) ?_
 refine LJ_call0 rfl rfl rfl rfl rfl (look_c (h := hm) (pts := fitR) (tris := triNew 0 1 2) (p1 := 1) (p2 := 1) fitR_ok fitR_okT (show 4 ≤ 1073741824 by decide) ⟨by unfold Tm; decide, by unfold Tm; decide⟩) (fun r h => frz_mesh r h) ?_
 refine LJ_val (v := plV (0, 0, 0, 0)) (congrArg plV fitR_look) ?_
 refine LJ_alloc (cs := #[_, _, _, _]) rfl rfl zer_42 rfl ?_
 intro b3
 refine LJ_store (cs' := #[_, _, _, _]) (μ' := [_, _]) 0 rfl rfl rfl rfl tyi_42 rfl (Nat.le_of_ble_eq_true rfl) rfl rfl rfl ?_
 refine LJ_nil ?_
 refine QJ_then ?_
 refine CJ_seq ?_
 refine CJ_reg ?_
 refine LJ_y rfl rfl (YJ_move rfl) ?_
 refine LJ_y rfl rfl (YJ_loadN (vs := [_, _]) rfl tyi_23 m1 rfl rfl) ?_
 refine LJ_y rfl rfl (YJ_loadN (vs := [_, _, _, _]) rfl tyi_42 m0 rfl rfl) ?_
 refine LJ_callX rfl rfl rfl rfl rfl (dig_c (h := hm) (pts := fitR) (tris := triNew 0 1 2) (p1 := 1) (p2 := 1) (kd := 0) (pa := 0) (pb := 0) (n0 := 0) (n1 := 0) (q0 := [0]) fitR_ok ⟨by unfold Tm; decide, by unfold Tm; decide⟩ (show 4 ≤ 1000000 by decide) (by decide) hTg fitR_ms (t0 := ⟨0, 1, 2, 1, 2, 3, false, false, false⟩) rfl (fun q => by cases q) rfl (fun x hx => by rw [List.mem_singleton] at hx; subst hx; exact ⟨_, rfl, by decide⟩) (by simp)) (fun r h => frz_mesh r h) ?_
 rintro ⟨ts, A1, c1, A2, c2⟩ hD
 obtain rfl := fitR_ts hD
 dsimp only [List.nil_append]
 rw [fitR_rim.1, fitR_rim.2]
 refine LJ_alloc (cs := #[_, _, _]) rfl rfl zer_85 rfl ?_
 intro b4
 refine LJ_store (cs' := #[_, _, _]) (μ' := [_, _, _]) 0 rfl rfl rfl rfl tyi_85 rfl (Nat.le_of_ble_eq_true rfl) rfl rfl rfl ?_
 refine LJ_nil ?_
 refine QJ_then ?_
 refine CJ_seq ?_
 refine CJ_regD mix (by kernel_rfl) (fun _ _ _ _ _ h => h) _ _ (fun _ h => h) (fun _ h => h) ?_
 refine AJ_y 0 rfl (by kernel_rfl) (by kernel_rfl) rfl rfl (YJ_fieldOwn rfl fld_85_0 rfl) ?_
 refine AJ_y 1 rfl (by kernel_rfl) (by kernel_rfl) rfl rfl (YJ_loadL rfl tyi_55 m0 rfl) ?_
 refine AJ_y 2 rfl (by kernel_rfl) (by kernel_rfl) rfl rfl (YJ_len rfl ulen_55 rfl) ?_
 refine AJ_y 3 rfl (by kernel_rfl) (by kernel_rfl) rfl rfl (YJ_bin rfl rfl rfl) ?_
 refine AJ_y 4 rfl (by kernel_rfl) (by kernel_rfl) rfl rfl (YJ_move rfl) ?_
 refine AJ_bool (c := true) rfl ?_
 refine AJ_y 5 rfl (by kernel_rfl) (by kernel_rfl) rfl rfl (YJ_fieldOwn rfl fld_85_0 rfl) ?_
 refine AJ_y 6 rfl (by kernel_rfl) (by kernel_rfl) rfl rfl (YJ_loadL rfl tyi_55 m0 rfl) ?_
 refine AJ_y 7 rfl (by kernel_rfl) (by kernel_rfl) rfl rfl (YJ_ixFact (n' := 1) rfl rfl elt_55 m0 (by decide) (by omega) (by decide) (by decide)) ?_
 refine AJ_y 8 rfl (by kernel_rfl) (by kernel_rfl) rfl rfl (YJ_loadFactP (A := A1) (j := 0) rfl rfl tyi_3 m0 rfl) ?_
 refine AJ_y 9 rfl (by kernel_rfl) (by kernel_rfl) rfl rfl (YJ_fieldOwn rfl fld_42_1 rfl) ?_
 refine AJ_y 10 rfl (by kernel_rfl) (by kernel_rfl) rfl rfl (YJ_loadL rfl tyi_3 m1 rfl) ?_
 refine AJ_y 11 rfl (by kernel_rfl) (by kernel_rfl) rfl rfl (YJ_bin rfl rfl rfl) ?_
 refine AJ_y 12 rfl (by kernel_rfl) (by kernel_rfl) rfl rfl (YJ_pickT rfl rfl) ?_
 refine AJ_y 13 rfl (by kernel_rfl) (by kernel_rfl) rfl rfl (YJ_move rfl) ?_
 refine AJ_bool (c := true) rfl ?_
 refine AJ_y 14 rfl (by kernel_rfl) (by kernel_rfl) rfl rfl (YJ_fieldOwn rfl fld_85_1 rfl) ?_
 refine AJ_y 15 rfl (by kernel_rfl) (by kernel_rfl) rfl rfl (YJ_loadL rfl tyi_83 m0 rfl) ?_
 refine AJ_y 16 rfl (by kernel_rfl) (by kernel_rfl) rfl rfl (YJ_len rfl ulen_83 rfl) ?_
 refine AJ_y 17 rfl (by kernel_rfl) (by kernel_rfl) rfl rfl (YJ_bin rfl rfl rfl) ?_
 refine AJ_y 18 rfl (by kernel_rfl) (by kernel_rfl) rfl rfl (YJ_pickT rfl rfl) ?_
 refine AJ_y 19 rfl (by kernel_rfl) (by kernel_rfl) rfl rfl (YJ_move rfl) ?_
 refine AJ_bool (c := true) rfl ?_
 refine AJ_y 20 rfl (by kernel_rfl) (by kernel_rfl) rfl rfl (YJ_fieldOwn rfl fld_85_2 rfl) ?_
 refine AJ_y 21 rfl (by kernel_rfl) (by kernel_rfl) rfl rfl (YJ_loadL rfl tyi_4 m0 rfl) ?_
 refine AJ_y 22 rfl (by kernel_rfl) (by kernel_rfl) rfl rfl (YJ_not rfl) ?_
 refine AJ_y 23 rfl (by kernel_rfl) (by kernel_rfl) rfl rfl (YJ_pickT rfl rfl) ?_
 refine AJ_y 24 rfl (by kernel_rfl) (by kernel_rfl) rfl rfl (YJ_move rfl) ?_
 refine AJ_bool (c := true) rfl ?_
 refine AJ_y 25 rfl (by kernel_rfl) (by kernel_rfl) rfl rfl (YJ_fieldOwn rfl fld_85_1 rfl) ?_
 refine AJ_y 26 rfl (by kernel_rfl) (by kernel_rfl) rfl rfl (YJ_loadL rfl tyi_83 m0 rfl) ?_
 refine AJ_y 27 rfl (by kernel_rfl) (by kernel_rfl) rfl rfl (YJ_ixFact (n' := 3) rfl rfl elt_83 m1 (by decide) (by omega) (by decide) (by decide)) ?_
 refine AJ_y 28 rfl (by kernel_rfl) (by kernel_rfl) rfl rfl (YJ_fieldAddr rfl fld_89_0) ?_
 refine AJ_y 29 rfl (by kernel_rfl) (by kernel_rfl) rfl rfl (YJ_loadFactP (A := A2) (j := 0) rfl (by rw [Addr.add_add] <;> rfl) tyi_3 m1 rfl) ?_
 refine AJ_y 30 rfl (by kernel_rfl) (by kernel_rfl) rfl rfl (YJ_bin rfl rfl rfl) ?_
 refine AJ_y 31 rfl (by kernel_rfl) (by kernel_rfl) rfl rfl (YJ_pickT rfl rfl) ?_
 refine AJ_y 32 rfl (by kernel_rfl) (by kernel_rfl) rfl rfl (YJ_assign rfl) ?_
 refine AJ_done (by kernel_rfl) ?_
 refine QJ_then ?_
 refine CJ_ret ?_
 refine QJ_fin (.inl rfl) (μ' := []) (μr := _) (φ' := []) (res_tmp rfl rfl) (List.Perm.refl _) (fun _ h => nomatch h) ?_
 exact ⟨congrArg Value.bool (by first | rfl | kernel_rfl), rfl, rfl⟩
end Go.Proofs.Ytbanlhlggkdanaa
namespace Go.Proofs.Ytbanlhlggkdanaa
open Go.RowKit
def shV (pts : List (Int × Int)) (v : T3) : Int × Int := (min (ptAt pts v.1).1 (min (ptAt pts v.2.1).1 (ptAt pts v.2.2).1), min (ptAt pts v.1).2 (min (ptAt pts v.2.1).2 (ptAt pts v.2.2).2))
def shB (pts : List (Int × Int)) (W H : Nat) (v : T3) : Bool :=
 let X := (shV pts v).1; let Y := (shV pts v).2
 decide (0 ≤ X ∧ X + 2 ≤ 2 * W ∧ 0 ≤ Y ∧ Y + 2 ≤ 2 * H) && (decide (ptAt pts v.1 = (X, Y) ∧ ptAt pts v.2.1 = (X + 2, Y) ∧ ptAt pts v.2.2 = (X + 2, Y + 2)) || (decide (ptAt pts v.1 = (X + 2, Y + 2) ∧ ptAt pts v.2.1 = (X, Y + 2) ∧ ptAt pts v.2.2 = (X, Y)) ||
  (decide (ptAt pts v.1 = (X + 2, Y) ∧ ptAt pts v.2.1 = (X, Y + 2) ∧ ptAt pts v.2.2 = (X, Y)) || decide (ptAt pts v.1 = (X, Y + 2) ∧ ptAt pts v.2.1 = (X + 2, Y) ∧ ptAt pts v.2.2 = (X + 2, Y + 2)))))
def mrB (G : List T3) : Bool := G.all fun v => G.all fun w => [0, 1, 2].all fun i => [0, 1, 2].all fun j => decide (i = j) || (!decide (rev2 (kv v i) ∈ eds w) || !decide (rev2 (kv v j) ∈ eds w))
def vtB (W H : Nat) (f : Nat → Bool) : Bool :=
 let P := gPts W H; let T := gTris W H f
 P.all (fun p => T.all fun v => !hdV P v p || (decide (ptAt P v.1 = p) || (decide (ptAt P v.2.1 = p) || decide (ptAt P v.2.2 = p)))) && (T.all (shB P W H) && (mrB (gAll W H f) && decide ((gAll W H f).filter (fun v => decide (rv v)) = T)))
set_option maxRecDepth 100000 in
theorem vtB_all : ∀ b0 b1 b2 b3 : Bool, vtB 1 1 (bit4 b0 b1 b2 b3) = true ∧ vtB 1 2 (bit4 b0 b1 b2 b3) = true ∧ vtB 2 1 (bit4 b0 b1 b2 b3) = true ∧ vtB 2 2 (bit4 b0 b1 b2 b3) = true := by decide +kernel
section
variable {W H : Nat} {f : Nat → Bool}
theorem vtB_true (hW : W = 1 ∨ W = 2) (hH : H = 1 ∨ H = 2) : vtB W H f = true := by
 have := vtB_all (f 0) (f 1) (f 2) (f 3)
 unfold vtB gAll at this ⊢
 rw [gTris_nf hW hH]
 rcases hW with rfl | rfl <;> rcases hH with rfl | rfl
 ·exact this.1
 ·exact this.2.1
 ·exact this.2.2.1
 ·exact this.2.2.2
theorem inB_true (hW : W = 1 ∨ W = 2) (hH : H = 1 ∨ H = 2) : inB W H f = true := by
 have := inB_all (f 0) (f 1) (f 2) (f 3)
 unfold inB inP inK gAll at this ⊢
 rw [gTris_nf hW hH]
 rcases hW with rfl | rfl <;> rcases hH with rfl | rfl
 ·exact this.1
 ·exact this.2.1
 ·exact this.2.2.1
 ·exact this.2.2.2
theorem outB_true (hW : W = 1 ∨ W = 2) (hH : H = 1 ∨ H = 2) : outB W H f = true := by
 have := outB_all (f 0) (f 1) (f 2) (f 3)
 unfold outB outC gAll at this ⊢
 rw [gTris_nf hW hH]
 rcases hW with rfl | rfl <;> rcases hH with rfl | rfl
 ·exact this.1
 ·exact this.2.1
 ·exact this.2.2.1
 ·exact this.2.2.2
end
def inBox (W H : Nat) (p : Int × Int) : Prop := (0 ≤ p.1 ∧ p.1 ≤ 2 * W) ∧ 0 ≤ p.2 ∧ p.2 ≤ 2 * H
theorem A2_h {x y z a b : Int} : A2 x y z y a b = (z - x) * (b - y) := by unfold A2 det; grind
theorem A2_v {x y z a b : Int} : A2 x y x z a b = - ((z - y) * (a - x)) := by unfold A2 det; grind
theorem A2_d1 {X Y a b : Int} : A2 (X + 2) (Y + 2) X Y a b = 2 * (a - X) - 2 * (b - Y) := by unfold A2 det; grind
theorem A2_d2 {X Y a b : Int} : A2 X Y (X + 2) (Y + 2) a b = 2 * (b - Y) - 2 * (a - X) := by unfold A2 det; grind
theorem A2_d3 {X Y a b : Int} : A2 (X + 2) Y X (Y + 2) a b = 4 - 2 * (b - Y) - 2 * (a - X) := by unfold A2 det; grind
theorem A2_d4 {X Y a b : Int} : A2 X (Y + 2) (X + 2) Y a b = 2 * (b - Y) + 2 * (a - X) - 4 := by unfold A2 det; grind
theorem hdV_box {pts : List (Int × Int)} {W H : Nat} {v : T3} {p : Int × Int} (hs : shB pts W H v = true) (hh : hdV pts v p = true) : inBox W H p := by
 unfold shB at hs
 generalize (shV pts v).1 = X at hs
 generalize (shV pts v).2 = Y at hs
 simp only [Bool.and_eq_true, Bool.or_eq_true, decide_eq_true_eq] at hs
 obtain ⟨⟨x0, x1, y0, y1⟩, hs⟩ := hs
 unfold hdV at hh
 obtain ⟨h0, h1, h2⟩ := of_decide_eq_true hh
 have h0 : ¬ A2 (ptAt pts v.2.1).1 (ptAt pts v.2.1).2 (ptAt pts v.2.2).1 (ptAt pts v.2.2).2 p.1 p.2 < 0 := h0
 have h1 : ¬ A2 (ptAt pts v.2.2).1 (ptAt pts v.2.2).2 (ptAt pts v.1).1 (ptAt pts v.1).2 p.1 p.2 < 0 := h1
 have h2 : ¬ A2 (ptAt pts v.1).1 (ptAt pts v.1).2 (ptAt pts v.2.1).1 (ptAt pts v.2.1).2 p.1 p.2 < 0 := h2
 have e1 : ∀ z w : Int, (z + 2 - z) * w = 2 * w := fun z w => by grind
 have e2 : ∀ z w : Int, (z - (z + 2)) * w = - (2 * w) := fun z w => by grind
 unfold inBox
 rcases hs with ⟨q1, q2, q3⟩ | ⟨q1, q2, q3⟩ | ⟨q1, q2, q3⟩ | ⟨q1, q2, q3⟩ <;> rw [q1, q2] at h2 <;> rw [q2, q3] at h0 <;> rw [q3, q1] at h1 <;> dsimp only at h0 h1 h2
 ·rw [A2_h, e1] at h2; rw [A2_v, e1] at h0; rw [A2_d1] at h1; omega
 ·rw [A2_h, e2] at h2; rw [A2_v, e2] at h0; rw [A2_d2] at h1; omega
 ·rw [A2_d3] at h2; rw [A2_v, e2] at h0; rw [A2_h, e1] at h1; omega
 ·rw [A2_d4] at h2; rw [A2_v, e1] at h0; rw [A2_h, e2] at h1; omega
end Go.Proofs.Ytbanlhlggkdanaa
namespace Go.Proofs.Ytbanlhlggkdanaa
open Go.RowKit
theorem cfB_trV (pts : List (Int × Int)) (t : Tr) (p : Int × Int) : cfB pts t p = cfV pts (t.v0, t.v1, t.v2) p := rfl
theorem gh_A2 {W H : Nat} {v : T3} {p : Int × Int} (hs : sdV (gPts W H) W H v < 4) :
  decide (0 < A2 (ptAt (gPts W H) v.1).1 (ptAt (gPts W H) v.1).2 (ptAt (gPts W H) v.2.1).1 (ptAt (gPts W H) v.2.1).2 p.1 p.2) = bySd (decide (p.1 < 0)) (decide (2 * (W : Int) < p.1)) (decide (p.2 < 0)) (decide (2 * (H : Int) < p.2)) (sdV (gPts W H) W H v) := by
 unfold sdV at hs ⊢
 dsimp only at hs ⊢
 generalize (ptAt (gPts W H) v.1) = b at *
 generalize (ptAt (gPts W H) v.2.1) = a at *
 obtain ⟨b1, b2⟩ := b
 obtain ⟨a1, a2⟩ := a
 dsimp only at *
 have e1 : ∀ z w : Int, (z + 2 - z) * w = 2 * w := fun z w => by grind
 have e2 : ∀ z w : Int, (z - 2 - z) * w = - (2 * w) := fun z w => by grind
 split
 ·rename_i q
  obtain ⟨rfl, rfl, rfl⟩ := q
  rw [A2_v, e1]
  show _ = decide (p.1 < 0)
  rw [decide_eq_decide]
  omega
 ·split
  ·rename_i q
   obtain ⟨rfl, rfl, rfl⟩ := q
   rw [A2_v, e2]
   show _ = decide (2 * (W : Int) < p.1)
   rw [decide_eq_decide]
   omega
  ·split
   ·rename_i q
    obtain ⟨rfl, rfl, rfl⟩ := q
    rw [A2_h, e2]
    show _ = decide (p.2 < 0)
    rw [decide_eq_decide]
    omega
   ·split
    ·rename_i q
     obtain ⟨rfl, rfl, rfl⟩ := q
     rw [A2_h, e1]
     show _ = decide (2 * (H : Int) < p.2)
     rw [decide_eq_decide]
     omega
    ·rename_i h0 h1 h3 h4
     rw [if_neg h0, if_neg h1, if_neg h3, if_neg h4] at hs
     omega
theorem fold_look {pts : List (Int × Int)} {tris : List Tr} {p : Int × Int} : ∀ (l : List (Nat × Tr)) (o : Int), (∀ x, x ∈ l → ∀ k, k < 3 → ¬ isReal tris (x.2.n k) → 0 ≤ x.2.n k) →
  let r := l.foldl (lookTri pts tris p) o
  (r = o ∧ (o < 0 → ∀ x, x ∈ l → ∀ k, k < 3 → ¬ (¬ isReal tris (x.2.n k) ∧ bey pts x.2 k p))) ∨ ∃ x, x ∈ l ∧ ∃ k, k < 3 ∧ ¬ isReal tris (x.2.n k) ∧ bey pts x.2 k p ∧ r = x.2.n k
 | [], o, _ => .inl ⟨rfl, fun _ _ h => nomatch h⟩
 | x :: l, o, hn => by
  dsimp only
  rw [List.foldl_cons]
  have ih := fold_look (pts := pts) (p := p) l (lookTri pts tris p o x) (fun y hy => hn y (.tail _ hy))
  dsimp only at ih
  have one : ∀ (o : Int) (k : Nat), k < 3 → (lookStep pts tris p x.2 o k = o ∧ (o < 0 → ¬ (¬ isReal tris (x.2.n k) ∧ bey pts x.2 k p))) ∨ (¬ isReal tris (x.2.n k) ∧ bey pts x.2 k p ∧ lookStep pts tris p x.2 o k = x.2.n k ∧ 0 ≤ x.2.n k) := by
   intro o k hk
   unfold lookStep
   split
   ·rename_i q
    exact .inr ⟨q.1, q.2.1, rfl, hn x (.head _) k hk q.1⟩
   ·rename_i q
    exact .inl ⟨rfl, fun ho h => q ⟨h.1, h.2, .inl ho⟩⟩
  have hx : (lookTri pts tris p o x = o ∧ (o < 0 → ∀ k, k < 3 → ¬ (¬ isReal tris (x.2.n k) ∧ bey pts x.2 k p))) ∨ ∃ k, k < 3 ∧ ¬ isReal tris (x.2.n k) ∧ bey pts x.2 k p ∧ lookTri pts tris p o x = x.2.n k ∧ 0 ≤ x.2.n k := by
   show (lookStep pts tris p x.2 (lookStep pts tris p x.2 (lookStep pts tris p x.2 o 0) 1) 2 = o ∧ _) ∨ ∃ k, k < 3 ∧ ¬ isReal tris (x.2.n k) ∧ bey pts x.2 k p ∧ lookStep pts tris p x.2 (lookStep pts tris p x.2 (lookStep pts tris p x.2 o 0) 1) 2 = x.2.n k ∧ 0 ≤ x.2.n k
   rcases one (lookStep pts tris p x.2 (lookStep pts tris p x.2 o 0) 1) 2 (by decide) with ⟨a1, a2⟩ | ⟨a1, a2, a3, a4⟩
   ·rw [a1]
    rcases one (lookStep pts tris p x.2 o 0) 1 (by decide) with ⟨b1, b2⟩ | ⟨b1, b2, b3, b4⟩
    ·rw [b1]
     rw [b1] at a2
     rcases one o 0 (by decide) with ⟨c1, c2⟩ | ⟨c1, c2, c3, c4⟩
     ·rw [c1]
      rw [c1] at a2 b2
      exact .inl ⟨rfl, fun ho k hk => match k, hk with
       | 0, _ => c2 ho
       | 1, _ => b2 ho
       | 2, _ => a2 ho⟩
     ·exact .inr ⟨0, by decide, c1, c2, c3, c4⟩
    ·exact .inr ⟨1, by decide, b1, b2, b3, b4⟩
   ·exact .inr ⟨2, by decide, a1, a2, a3, a4⟩
  rcases ih with ⟨i1, i2⟩ | ⟨y, hy, k, hk, j1, j2, j3⟩
  ·rcases hx with ⟨x1, x2⟩ | ⟨k, hk, j1, j2, j3, j4⟩
   ·rw [x1] at i1 i2 ⊢
    refine .inl ⟨i1, fun ho y hy => ?_⟩
    rcases List.mem_cons.1 hy with rfl | hy
    ·exact x2 ho
    ·exact i2 ho y hy
   ·exact .inr ⟨x, .head _, k, hk, j1, j2, i1.trans j3⟩
  ·exact .inr ⟨y, .tail _ hy, k, hk, j1, j2, j3⟩
section
variable {F : MapI} {W H : Nat} {f : Nat → Bool} {M : MD} {V : List (Nat × T3)}
theorem GM.mem_all (h : GM F W H f M V) {v : T3} : v ∈ gAll W H f ↔ ∃ n, (n, v) ∈ V := by
 rw [← h.pm.mem_iff, List.mem_map]
 constructor
 ·rintro ⟨x, hx, rfl⟩
  exact ⟨x.1, hx⟩
 ·rintro ⟨n, hn⟩
  exact ⟨_, hn, rfl⟩
theorem GM.mem_tris (h : GM F W H f M V) (hW : W = 1 ∨ W = 2) (hH : H = 1 ∨ H = 2) {v : T3} : v ∈ gTris W H f ↔ rv v ∧ ∃ n, (n, v) ∈ V := by
 have hb := vtB_true (f := f) hW hH
 unfold vtB at hb
 simp only [Bool.and_eq_true, decide_eq_true_eq] at hb
 rw [← hb.2.2.2, List.mem_filter, h.mem_all, decide_eq_true_eq]
 exact ⟨fun q => ⟨q.2, q.1⟩, fun q => ⟨q.2, q.1⟩⟩
theorem GM.vk (h : GM F W H f M V) {x : Nat × T3} (hx : x ∈ V) {k : Nat} (hk : k < 3) : tv x.2 k = -1 ∨ (0 ≤ tv x.2 k ∧ tv x.2 k < (gPts W H).length) := h.tg.ok _ (List.mem_map.2 ⟨x, hx, rfl⟩) k hk
theorem GM.ms (h : GM F W H f M V) : MsOk M.pts M.tris := by
 refine ⟨fun n t ht h0 => ?_, fun n t ht h0 i hi => ?_⟩
 ·have hx := h.lm.of ht h0
  have hd := h.tg.ds _ (List.mem_map.2 ⟨_, hx, rfl⟩)
  have hok : ∀ k, k < 3 → t.v k = -1 ∨ (0 ≤ t.v k ∧ t.v k < M.pts.length) := fun k hk => by
   rw [h.pts]
   exact h.vk hx hk
  refine ⟨fun k hk hg => ?_, fun hno k hk => (hok k hk).resolve_left (hno k hk)⟩
  have i1 := Nat.mod_lt (k + 1) (by decide : 0 < 3)
  have i2 := Nat.mod_lt (k + 2) (by decide : 0 < 3)
  have n1 : t.v ((k + 1) % 3) ≠ -1 := fun q => by
   have := tv_inj hd i1 hk (q.trans hg.symm)
   omega
  have n2 : t.v ((k + 2) % 3) ≠ -1 := fun q => by
   have := tv_inj hd i2 hk (q.trans hg.symm)
   omega
  exact ⟨(hok _ i1).resolve_left n1, (hok _ i2).resolve_left n2⟩
 ·have hx := h.lm.of ht h0
  obtain ⟨y, hy, j, hj, he, hn, _, o, ho, hov, _, _⟩ := h.lm.across h.tg hx ht hi
  refine ⟨y.1, hn, o, ho, ?_⟩
  have := h.tg.ne2 hy (by decide : 0 < 3)
  rw [← hov] at this
  exact this
theorem GM.lv (h : GM F W H f M V) {x : Nat × T3} (hx : x ∈ V) : lvT M.tris x.1 := by
 obtain ⟨t, ht, hv⟩ := h.lm.get hx
 refine ⟨t, ht, ?_⟩
 have := h.tg.ne2 hx (by decide : 0 < 3)
 rw [← hv] at this
 exact this
theorem GM.cf (h : GM F W H f M V) {x : Nat × T3} (hx : x ∈ V) (p : Int × Int) : cfN M.pts M.tris p x.1 = cfV (gPts W H) x.2 p := by
 obtain ⟨t, ht, hv⟩ := h.lm.get hx
 rw [cfN_at ht, cfB_trV, hv, h.pts]
end
section
variable {F : MapI} {W H : Nat} {f : Nat → Bool} {M : MD} {V : List (Nat × T3)} {p : Int × Int}
structure PlIn (W H : Nat) (f : Nat → Bool) (M : MD) (V : List (Nat × T3)) (p : Int × Int) (n0 n1 : Nat) (v0 : T3) (k : Nat) : Prop where
 y0 : (n0, v0) ∈ V
 hk : k < 3
 rl : rv v0
 ck : inK W H f p v0 k = true
 y1 : ∃ y, y ∈ V ∧ y.1 = n1 ∧ ∃ j, j < 3 ∧ kv y.2 j = rev2 (kv v0 k)
 pl : look M.pts M.tris p = (1, (n0 : Int), min (kv v0 k).1 (kv v0 k).2, max (kv v0 k).1 (kv v0 k).2)
structure PlOut (W H : Nat) (f : Nat → Bool) (M : MD) (V : List (Nat × T3)) (p : Int × Int) (n0 : Nat) (v0 : T3) : Prop where
 y0 : (n0, v0) ∈ V
 gh : ¬ rv v0
 ck : outC W H f (decide (p.1 < 0)) (decide (2 * (W : Int) < p.1)) (decide (p.2 < 0)) (decide (2 * (H : Int) < p.2)) = true
 by_ : bySd (decide (p.1 < 0)) (decide (2 * (W : Int) < p.1)) (decide (p.2 < 0)) (decide (2 * (H : Int) < p.2)) (sdV (gPts W H) W H v0) = true
 pl : look M.pts M.tris p = (3, (n0 : Int), 0, 0)
theorem GM.find_in (h : GM F W H f M V) (hW : W = 1 ∨ W = 2) (hH : H = 1 ∨ H = 2) (hp : inBox W H p) : ∃ (n : Nat) (t : Tr), M.tris[n]? = some t ∧ hld M.pts t p ∧ rv (t.v0, t.v1, t.v2) ∧ (n, (t.v0, t.v1, t.v2)) ∈ V ∧ look M.pts M.tris p = place M.pts t (n : Int) p := by
 have hb := inB_true (f := f) hW hH
 unfold inB at hb
 simp only [List.all_eq_true, List.mem_range] at hb
 obtain ⟨⟨x0, x1⟩, y0, y1⟩ := hp
 have hb := hb p.1.toNat (by omega) p.2.toNat (by omega)
 rw [show (((p.1.toNat : Nat) : Int), ((p.2.toNat : Nat) : Int)) = p from Prod.ext (by dsimp only; omega) (by dsimp only; omega)] at hb
 unfold inP at hb
 dsimp only at hb
 rw [Bool.and_eq_true, List.any_eq_true] at hb
 obtain ⟨⟨v, hv, hh⟩, _⟩ := hb
 obtain ⟨hr, n, hn⟩ := (h.mem_tris hW hH).1 hv
 obtain ⟨t, ht, htv⟩ := h.lm.get hn
 dsimp only at ht htv
 have hld1 : hld M.pts t p := by
  have := of_decide_eq_true hh
  rw [← htv, ← h.pts] at this
  exact this
 cases hf : (reals M.tris).find? (fun x => decide (hld M.pts x.2 p)) with
 | none =>
  have := List.find?_eq_none.1 hf (n, t) (h.lm.mem_real.2 ⟨ht, by rw [htv]; exact hn, by rw [htv]; exact hr⟩)
  exact absurd hld1 (by simpa using this)
 | some x =>
  obtain ⟨m, u⟩ := x
  have h1 := List.find?_some hf
  obtain ⟨g1, g2, g3⟩ := h.lm.mem_real.1 (List.mem_of_find?_eq_some hf)
  exact ⟨m, u, g1, by simpa using h1, g3, g2, by unfold look; rw [hf]⟩
end
theorem A2_swp {a1 a2 b1 b2 c1 c2 : Int} : A2 b1 b2 a1 a2 c1 c2 = - A2 a1 a2 b1 b2 c1 c2 := by unfold A2 det; grind
theorem pick8 {W H : Nat} {p : Int × Int} (g : Bool → Bool → Bool → Bool → Bool) (b1 : g true false false false = true) (b2 : g false true false false = true) (b3 : g false false true false = true) (b4 : g false false false true = true) (b5 : g true false true false = true) (b6 : g true false false true = true) (b7 : g false true true false = true) (b8 : g false true false true = true) (hp : ¬ inBox W H p) : g (decide (p.1 < 0)) (decide (2 * (W : Int) < p.1)) (decide (p.2 < 0)) (decide (2 * (H : Int) < p.2)) = true := by
 unfold inBox at hp
 by_cases a1 : p.1 < 0 <;> by_cases a2 : 2 * (W : Int) < p.1 <;> by_cases a3 : p.2 < 0 <;> by_cases a4 : 2 * (H : Int) < p.2 <;> simp only [a1, a2, a3, a4, decide_true, decide_false] <;> first | assumption | (exfalso; omega)
section
variable {F : MapI} {W H : Nat} {f : Nat → Bool} {M : MD} {V : List (Nat × T3)} {p : Int × Int}
set_option maxHeartbeats 4000000 in
theorem GM.pl_in (h : GM F W H f M V) (hW : W = 1 ∨ W = 2) (hH : H = 1 ∨ H = 2) (hp : inBox W H p) (hne : (look M.pts M.tris p).1 ≠ 2) : ∃ n0 n1 v0 k, PlIn W H f M V p n0 n1 v0 k := by
 obtain ⟨n, t, ht, hh, hr, hV, hl⟩ := h.find_in hW hH hp
 have hvT := (h.mem_tris hW hH).2 ⟨hr, n, hV⟩
 rw [hl] at hne
 have p0 : ¬ ptAt M.pts t.v0 = p := fun q => hne (by unfold place; rw [if_pos q])
 have p1 : ¬ ptAt M.pts t.v1 = p := fun q => hne (by unfold place; rw [if_neg p0, if_pos q])
 have p2 : ¬ ptAt M.pts t.v2 = p := fun q => hne (by unfold place; rw [if_neg p0, if_neg p1, if_pos q])
 have hhV : hdV (gPts W H) (t.v0, t.v1, t.v2) p = true := by
  unfold hdV
  rw [decide_eq_true_eq, ← h.pts]
  exact hh
 have hvt := vtB_true (f := f) hW hH
 unfold vtB at hvt
 simp only [Bool.and_eq_true, List.all_eq_true] at hvt
 have hnP : ¬ p ∈ gPts W H := by
  intro hm
  have := hvt.1 p hm _ hvT
  rw [hhV] at this
  simp only [Bool.not_true, Bool.false_or, Bool.or_eq_true, decide_eq_true_eq] at this
  rw [← h.pts] at this
  rcases this with q | q | q
  ·exact p0 q
  ·exact p1 q
  ·exact p2 q
 have hb := inB_true (f := f) hW hH
 unfold inB at hb
 simp only [List.all_eq_true, List.mem_range] at hb
 obtain ⟨⟨x0, x1⟩, y0, y1⟩ := hp
 have hb := hb p.1.toNat (by omega) p.2.toNat (by omega)
 rw [show (((p.1.toNat : Nat) : Int), ((p.2.toNat : Nat) : Int)) = p from Prod.ext (by dsimp only; omega) (by dsimp only; omega)] at hb
 unfold inP at hb
 dsimp only at hb
 rw [Bool.and_eq_true, decide_eq_false hnP, Bool.false_or, List.all_eq_true] at hb
 have hb := hb.2 _ hvT
 rw [hhV] at hb
 simp only [Bool.not_true, Bool.false_or, Bool.and_eq_true] at hb
 obtain ⟨_, _, _, hb⟩ := hb
 have fin : ∀ k, k < 3 → inK W H f p (t.v0, t.v1, t.v2) k = true → place M.pts t (n : Int) p = (1, (n : Int), min (kv (t.v0, t.v1, t.v2) k).1 (kv (t.v0, t.v1, t.v2) k).2, max (kv (t.v0, t.v1, t.v2) k).1 (kv (t.v0, t.v1, t.v2) k).2) → ∃ n0 n1 v0 k, PlIn W H f M V p n0 n1 v0 k := by
  intro k hk hK hpl
  obtain ⟨y, hy, j, hj, he, _⟩ := h.lm.across h.tg hV ht hk
  exact ⟨n, y.1, _, k, hV, hk, hr, hK, ⟨y, hy, rfl, j, hj, he⟩, hl.trans hpl⟩
 have eg : ∀ k, egV (gPts W H) (t.v0, t.v1, t.v2) k p = decide (Go.Proofs.Ytbanlhlggkdanaa.edge M.pts t k p) := fun k => by rw [h.pts]; rfl
 rw [eg 0, eg 1, eg 2] at hb
 by_cases e0 : Go.Proofs.Ytbanlhlggkdanaa.edge M.pts t 0 p
 ·rw [decide_eq_true e0, if_pos rfl] at hb
  exact fin 0 (by decide) hb (by unfold place; rw [if_neg p0, if_neg p1, if_neg p2, if_pos e0]; rfl)
 ·rw [decide_eq_false e0] at hb
  by_cases e1 : Go.Proofs.Ytbanlhlggkdanaa.edge M.pts t 1 p
  ·rw [decide_eq_true e1] at hb
   exact fin 1 (by decide) hb (by unfold place; rw [if_neg p0, if_neg p1, if_neg p2, if_neg e0, if_pos e1]; rfl)
  ·rw [decide_eq_false e1] at hb
   by_cases e2 : Go.Proofs.Ytbanlhlggkdanaa.edge M.pts t 2 p
   ·rw [decide_eq_true e2] at hb
    exact fin 2 (by decide) hb (by unfold place; rw [if_neg p0, if_neg p1, if_neg p2, if_neg e0, if_neg e1, if_pos e2]; rfl)
   ·rw [decide_eq_false e2] at hb
    simp at hb
theorem gAll_gh {v : T3} (hv : v ∈ gAll W H f) (hg : ¬ v ∈ gTris W H f) : (v.2.1, v.1) ∈ openE (gTris W H f) ∧ v.2.2 = -1 := by
 unfold gAll at hv
 rcases List.mem_append.1 hv with hv | hv
 ·exact absurd hv hg
 ·obtain ⟨e, he, rfl⟩ := List.mem_map.1 hv
  exact ⟨he, rfl⟩
theorem outB_gh (hW : W = 1 ∨ W = 2) (hH : H = 1 ∨ H = 2) {v : T3} (hv : v ∈ gAll W H f) (hg : ¬ rv v) : v.2.2 = -1 ∧ sdV (gPts W H) W H v < 4 := by
 have hb := outB_true (f := f) hW hH
 unfold outB at hb
 rw [Bool.and_eq_true, List.all_eq_true] at hb
 have := hb.1 v hv
 simp only [rvB, Bool.or_eq_true, Bool.and_eq_true, decide_eq_true_eq] at this
 exact this.resolve_left hg
theorem outC_true (hW : W = 1 ∨ W = 2) (hH : H = 1 ∨ H = 2) (hp : ¬ inBox W H p) : outC W H f (decide (p.1 < 0)) (decide (2 * (W : Int) < p.1)) (decide (p.2 < 0)) (decide (2 * (H : Int) < p.2)) = true := by
 have hb := outB_true (f := f) hW hH
 unfold outB at hb
 simp only [Bool.and_eq_true] at hb
 obtain ⟨_, b1, b2, b3, b4, b5, b6, b7, b8⟩ := hb
 exact pick8 (outC W H f) b1 b2 b3 b4 b5 b6 b7 b8 hp
set_option maxHeartbeats 4000000 in
theorem GM.pl_out (h : GM F W H f M V) (hW : W = 1 ∨ W = 2) (hH : H = 1 ∨ H = 2) (hp : ¬ inBox W H p) : ∃ n0 v0, PlOut W H f M V p n0 v0 := by
 have hvt := vtB_true (f := f) hW hH
 unfold vtB at hvt
 simp only [Bool.and_eq_true, List.all_eq_true] at hvt
 have hno : ∀ y, y ∈ reals M.tris → ¬ hld M.pts y.2 p := by
  rintro ⟨n, t⟩ hy hh
  obtain ⟨g1, g2, g3⟩ := h.lm.mem_real.1 hy
  refine hp (hdV_box (hvt.2.1 _ ((h.mem_tris hW hH).2 ⟨g3, n, g2⟩)) ?_)
  unfold hdV
  rw [decide_eq_true_eq, ← h.pts]
  exact hh
 have hoc := outC_true (f := f) hW hH hp
 have hck := hoc
 unfold outC at hoc
 simp only [Bool.and_eq_true, decide_eq_true_eq] at hoc
 obtain ⟨_, _, hpos⟩ := hoc
 obtain ⟨g, hg⟩ := List.exists_mem_of_length_pos hpos
 rw [List.mem_filter] at hg
 simp only [rvB, Bool.and_eq_true, Bool.not_eq_true', decide_eq_false_iff_not] at hg
 obtain ⟨hgA, hgr, hgb⟩ := hg
 obtain ⟨hg2, hgs⟩ := outB_gh hW hH hgA hgr
 have hgT : ¬ g ∈ gTris W H f := fun q => hgr ((h.mem_tris hW hH).1 q).1
 obtain ⟨y, hy, j, hj, y', hy', j', hj', t, t', ht, ht', hk1, hk2, hr1, hr2⟩ := h.bord hW hH (gAll_gh hgA hgT).1
 have hbey : ∀ {v : T3} {t : Tr} {k : Nat}, kv (t.v0, t.v1, t.v2) k = (v.2.1, v.1) → (bey M.pts t k p ↔ 0 < A2 (ptAt (gPts W H) v.1).1 (ptAt (gPts W H) v.1).2 (ptAt (gPts W H) v.2.1).1 (ptAt (gPts W H) v.2.1).2 p.1 p.2) := by
  intro v t k he
  rw [t_kv] at he
  have e1 : t.v ((k + 1) % 3) = v.2.1 := congrArg Prod.fst he
  have e2 : t.v ((k + 2) % 3) = v.1 := congrArg Prod.snd he
  unfold bey
  rw [e1, e2, h.pts, A2_swp]
  omega
 have hnn : ∀ x, x ∈ reals M.tris → ∀ k, k < 3 → ¬ isReal M.tris (x.2.n k) → 0 ≤ x.2.n k := by
  rintro ⟨n, t⟩ hx k hk _
  obtain ⟨g1, g2, _⟩ := h.lm.mem_real.1 hx
  obtain ⟨z, _, _, _, _, hn, _⟩ := h.lm.across h.tg g2 g1 hk
  rw [hn]
  exact Int.natCast_nonneg _
 rcases fold_look (pts := M.pts) (p := p) (reals M.tris) (-1) hnn with ⟨_, r2⟩ | ⟨⟨n, u⟩, hx, k, hk, q1, q2, q3⟩
 ·exfalso
  obtain ⟨tt, htt, hv⟩ := h.lm.get hy
  rw [ht] at htt
  cases htt
  have hm : (y.1, t) ∈ reals M.tris := h.lm.mem_real.2 ⟨ht, by rw [hv]; exact hy, by rw [hv]; exact (h.lm.real_at hy).1 hr1⟩
  obtain ⟨z, hz, jz, hjz, hez, hn, _⟩ := h.lm.across h.tg hy ht hj
  have hzy := (h.lm.un z hz jz hjz y' hy' j' hj' (by rw [hez, hk1, hk2])).1
  refine r2 (by decide) _ hm j hj ⟨?_, ?_⟩
  ·show ¬ isReal M.tris (t.n j)
   rw [hn, hzy]
   exact hr2
  ·refine (hbey (v := g) (t := t) (k := j) (by rw [hv]; exact hk1)).2 ?_
   have := gh_A2 (p := p) hgs
   rw [hgb] at this
   exact of_decide_eq_true this
 ·obtain ⟨g1, g2, g3⟩ := h.lm.mem_real.1 hx
  obtain ⟨z, hz, jz, hjz, hez, hn, _⟩ := h.lm.across h.tg g2 g1 hk
  dsimp only at hez q1 q2 q3
  have hzr : ¬ rv z.2 := fun q => q1 (by rw [hn]; exact (h.lm.real_at hz).2 q)
  have hzA := h.mem_all.2 ⟨z.1, hz⟩
  obtain ⟨hz2, hzs⟩ := outB_gh hW hH hzA hzr
  have hkk : ∀ i, i < 3 → 0 ≤ u.v i := fun i hi => match i, hi with
   | 0, _ => g3.1
   | 1, _ => g3.2.1
   | 2, _ => g3.2.2
  have hj2 : jz = 2 := by
   have a1 := hkk ((k + 1) % 3) (Nat.mod_lt _ (by decide))
   have a2 := hkk ((k + 2) % 3) (Nat.mod_lt _ (by decide))
   rw [t_kv] at hez
   have b1 : (kv z.2 jz).1 = u.v ((k + 2) % 3) := congrArg Prod.fst hez
   have b2 : (kv z.2 jz).2 = u.v ((k + 1) % 3) := congrArg Prod.snd hez
   match jz, hjz with
   | 0, _ => have : z.2.2.2 = u.v ((k + 1) % 3) := b2; omega
   | 1, _ => have : z.2.2.2 = u.v ((k + 2) % 3) := b1; omega
   | 2, _ => rfl
  subst hj2
  refine ⟨z.1, z.2, hz, hzr, hck, ?_, ?_⟩
  ·rw [← gh_A2 hzs, decide_eq_true_eq]
   refine (hbey (v := z.2) (t := u) (k := k) ?_).1 q2
   have : (z.2.1, z.2.2.1) = rev2 (kv (u.v0, u.v1, u.v2) k) := hez
   rw [Prod.mk.injEq] at this
   exact Prod.ext this.2.symm this.1.symm
  ·rw [look_none hno, q3, hn]
end
end Go.Proofs.Ytbanlhlggkdanaa
namespace Go.Proofs.Ytbanlhlggkdanaa
open Go.RowKit
def e2 (s : Sd) : Int × Int := (s.1, s.2.1)
end Go.Proofs.Ytbanlhlggkdanaa
namespace Go.Proofs.Ytbanlhlggkdanaa
open Go.RowKit
section
variable {F : MapI} {W H : Nat} {f : Nat → Bool} {M : MD} {V : List (Nat × T3)} {p : Int × Int}
theorem acr_e {t : Tr} (hd : dist3 (t.v0, t.v1, t.v2)) {k : Nat} (hk : k < 3) : acr t (min (kv (t.v0, t.v1, t.v2) k).1 (kv (t.v0, t.v1, t.v2) k).2) (max (kv (t.v0, t.v1, t.v2) k).1 (kv (t.v0, t.v1, t.v2) k).2) = t.n k := by
 obtain ⟨d1, d2, d3⟩ := hd
 dsimp only at d1 d2 d3
 match k, hk with
 | 0, _ =>
  show acr t (min t.v1 t.v2) (max t.v1 t.v2) = _
  refine acr_at (k := 0) (by decide) ⟨?_, ?_⟩ (fun j hj => absurd hj (Nat.not_lt_zero _)) <;> show t.v0 ≠ _ <;> omega
 | 1, _ =>
  show acr t (min t.v2 t.v0) (max t.v2 t.v0) = _
  refine acr_at (k := 1) (by decide) ⟨?_, ?_⟩ (fun j hj => ?_)
  ·show t.v1 ≠ _; omega
  ·show t.v1 ≠ _; omega
  ·obtain rfl : j = 0 := by omega
   show ¬ (t.v0 ≠ _ ∧ t.v0 ≠ _)
   omega
 | 2, _ =>
  show acr t (min t.v0 t.v1) (max t.v0 t.v1) = _
  refine acr_at (k := 2) (by decide) ⟨?_, ?_⟩ (fun j hj => ?_)
  ·show t.v2 ≠ _; omega
  ·show t.v2 ≠ _; omega
  ·rcases (show j = 0 ∨ j = 1 by omega) with rfl | rfl
   ·show ¬ (t.v0 ≠ _ ∧ t.v0 ≠ _)
    omega
   ·show ¬ (t.v1 ≠ _ ∧ t.v1 ≠ _)
    omega
structure InitOk (W H : Nat) (f : Nat → Bool) (M : MD) (V : List (Nat × T3)) (p : Int × Int) (kd pa pb : Int) (n0 n1 : Nat) (t0 : Tr) (q0 : List Nat) : Prop where
 pl : look M.pts M.tris p = (kd, (n0 : Int), pa, pb)
 ht0 : M.tris[n0]? = some t0
 hn1 : kd = 1 → acr t0 pa pb = (n1 : Int)
 hq0 : q0 = if kd = 1 then [n0, n1] else [n0]
 lv : ∀ x, x ∈ q0 → lvT M.tris x
 nd : q0.Nodup
 ed : kd = 1 → ∃ k, k < 3 ∧ pa = min (t0.v ((k + 1) % 3)) (t0.v ((k + 2) % 3)) ∧ pb = max (t0.v ((k + 1) % 3)) (t0.v ((k + 2) % 3)) ∧ t0.n k = (n1 : Int) ∧ 0 ≤ pa
 dd : dist3 (t0.v0, t0.v1, t0.v2)
 alt : (kd = 1 ∧ ∃ v0 k, PlIn W H f M V p n0 n1 v0 k) ∨ (kd = 3 ∧ ¬ inBox W H p ∧ ∃ v0, PlOut W H f M V p n0 v0)
theorem GM.init (h : GM F W H f M V) (hW : W = 1 ∨ W = 2) (hH : H = 1 ∨ H = 2) (hne : (look M.pts M.tris p).1 ≠ 2) : ∃ kd pa pb n0 n1 t0 q0, InitOk W H f M V p kd pa pb n0 n1 t0 q0 := by
 by_cases hb : inBox W H p
 ·obtain ⟨n0, n1, v0, k, hI⟩ := h.pl_in hW hH hb hne
  obtain ⟨t, ht, hv⟩ := h.lm.get hI.y0
  dsimp only at ht hv
  obtain ⟨y, hy, hy1, j, hj, hje⟩ := hI.y1
  have hV := hI.y0
  rw [← hv] at hje hV
  have hd := h.tg.ds _ (List.mem_map.2 ⟨_, hV, rfl⟩)
  obtain ⟨z, hz, jz, hjz, hez, hn, _⟩ := h.lm.across h.tg hV ht hI.hk
  have hzy := (h.lm.un z hz jz hjz y hy j hj (hez.trans hje.symm)).1
  rw [hzy, hy1] at hn
  have hne2 : n0 ≠ n1 := by
   intro e
   have hxy : ((n0, (t.v0, t.v1, t.v2)) : Nat × T3) = y := h.lm.num hV hy (e.trans hy1.symm)
   rw [← hxy] at hje
   exact kv_norev hd hj hI.hk hje
  refine ⟨1, _, _, n0, n1, t, [n0, n1], hI.pl, ht, fun _ => ?_, by rw [if_pos rfl], ?_, ?_, fun _ => ⟨k, hI.hk, ?_, ?_, hn, ?_⟩, hd, .inl ⟨rfl, v0, k, hI⟩⟩
  ·rw [← hv, acr_e hd hI.hk, hn]
  ·intro x hx
   rcases List.mem_cons.1 hx with rfl | hx
   ·exact h.lv hV
   ·rw [List.mem_singleton] at hx
    rw [hx, ← hy1]
    exact h.lv hy
  ·simp [hne2]
  ·rw [← hv, t_kv]
  ·rw [← hv, t_kv]
  ·have hr := hI.rl
   rw [← hv] at hr ⊢
   have hkk : ∀ i, i < 3 → 0 ≤ t.v i := fun i hi => match i, hi with
    | 0, _ => hr.1
    | 1, _ => hr.2.1
    | 2, _ => hr.2.2
   rw [t_kv]
   have := hkk ((k + 1) % 3) (Nat.mod_lt _ (by decide))
   have := hkk ((k + 2) % 3) (Nat.mod_lt _ (by decide))
   dsimp only
   omega
 ·obtain ⟨n0, v0, hO⟩ := h.pl_out hW hH hb
  obtain ⟨t, ht, hv⟩ := h.lm.get hO.y0
  dsimp only at ht hv
  refine ⟨3, 0, 0, n0, 0, t, [n0], hO.pl, ht, (fun q => absurd q (by decide)), (by rw [if_neg (by decide)]), ?_, (by simp), (fun q => absurd q (by decide)), ?_, .inr ⟨rfl, hb, v0, hO⟩⟩
  ·intro x hx
   rw [List.mem_singleton] at hx
   rw [hx]
   exact h.lv hO.y0
  ·rw [hv]
   exact h.tg.ds _ (List.mem_map.2 ⟨_, hO.y0, rfl⟩)
open Classical in
end
section
variable {F : MapI} {W H : Nat} {f : Nat → Bool} {M : MD} {V : List (Nat × T3)} {p : Int × Int}
end
end Go.Proofs.Ytbanlhlggkdanaa
namespace Go.Proofs.Ytbanlhlggkdanaa
open Go.RowKit
section
variable {F : MapI} {W H : Nat} {f : Nat → Bool} {M : MD} {V : List (Nat × T3)} {p : Int × Int}
end
section
variable {F : MapI} {W H : Nat} {f : Nat → Bool} {M : MD} {V : List (Nat × T3)} {p : Int × Int}
end
end Go.Proofs.Ytbanlhlggkdanaa
namespace Go.Proofs.Ytbanlhlggkdanaa
open Go.RowKit
def InQ (L : MI) (q : List Nat) : Prop := L.map (fun e => (e.1, e.2.1)) = q.map fun u : Nat => ((u : Int), (1 : Int))
theorem InQ.nil : InQ [] [] := rfl
theorem nxE_q (u : Nat) : ∀ q : List Nat, nxE (q.map fun u : Nat => ((u : Int), (1 : Int))) (u : Int) = if u ∈ q then 1 else 0
 | [] => rfl
 | v :: q => by
  have ih := nxE_q u q
  unfold nxE at ih ⊢
  rw [List.map_cons, List.find?_cons]
  by_cases h : ((v : Int)) = (u : Int)
  ·have : u = v := by omega
   subst this
   simp
  ·dsimp only
   rw [decide_eq_false h]
   dsimp only
   rw [ih]
   have : u ≠ v := by omega
   simp [List.mem_cons, this]
section
variable {L : MI} {q : List Nat} {c u : Nat}
theorem InQ.at (h : InQ L q) (u : Nat) : (mget (u : Int) L).getD 0 = if u ∈ q then 1 else 0 := by
 rw [mget_nx, show L.map (fun e => (e.1, e.2.1)) = _ from h, nxE_q]
theorem InQ.len (h : InQ L q) : L.length = q.length := by
 have := congrArg List.length h
 rw [List.length_map, List.length_map] at this
 exact this
theorem InQ.key (h : InQ L q) (hu : ¬ u ∈ q) : ¬ (u : Int) ∈ L.map (·.1) := by
 have e := congrArg (List.map (·.1)) (show L.map (fun e => (e.1, e.2.1)) = _ from h)
 rw [List.map_map, List.map_map] at e
 have e : L.map (·.1) = q.map fun u : Nat => (u : Int) := e
 rw [e, List.mem_map]
 rintro ⟨v, hv, he⟩
 have : v = u := by omega
 exact hu (this ▸ hv)
theorem InQ.put (h : InQ L q) (hu : ¬ u ∈ q) (c : Nat) : InQ (mput (u : Int) 1 L c) (q ++ [u]) := by
 unfold InQ
 rw [mput_new (h.key hu), List.map_append, List.map_append, show L.map (fun e => (e.1, e.2.1)) = _ from h]
 rfl
theorem getD_mapI {o : Option Int} : (o.map gI).getD (.int .i64 0) = .int .i64 (o.getD 0) := by cases o <;> rfl
theorem InQ.val (h : InQ L q) (u : Nat) : ((mget (u : Int) L).map gI).getD (.int .i64 0) = .int .i64 (if u ∈ q then 1 else 0) := by
 rw [getD_mapI, h.at]
end
structure Tk (pts : List (Int × Int)) (tris : List Tr) (p : Int × Int) (I q : List Nat) : Prop where
 nd : q.Nodup
 lv : ∀ x, x ∈ q → lvT tris x
 ini : ∀ x, x ∈ I → x ∈ q
 mn : ∀ D : Nat → Prop, (∀ x, x ∈ I → D x) → clD pts tris p D → ∀ x, x ∈ q → D x
def clT (pts : List (Int × Int)) (tris : List Tr) (p : Int × Int) (q : List Nat) (k i : Nat) : Prop :=
 ∀ (x : Nat) (t : Tr), x ∈ q → tris[x]? = some t → ∀ m, m < 3 → (x < k ∨ x = k ∧ m < i) → ∀ u : Nat, t.n m = (u : Int) → t.fl m = false → cfN pts tris p u = true → u ∈ q
section
variable {pts : List (Int × Int)} {tris : List Tr} {p : Int × Int} {I q : List Nat} {k i : Nat}
theorem Tk.start (h1 : I.Nodup) (h2 : ∀ x, x ∈ I → lvT tris x) : Tk pts tris p I I := ⟨h1, h2, fun _ h => h, fun _ h _ => h⟩
theorem clT.start : clT pts tris p q 0 0 := fun x t _ _ m _ h => absurd h (by omega)
theorem clT.skipN (h : clT pts tris p q k i) (hn : ¬ k ∈ q) : clT pts tris p q k (i + 1) := fun x t hx ht m hm hj =>
 h x t hx ht m hm (by
  rcases hj with hj | ⟨rfl, hj⟩
  ·exact .inl hj
  ·exact absurd hx hn)
theorem clT.skip (h : clT pts tris p q k i) {t : Tr} {u : Nat} (ht : tris[k]? = some t) (hu : t.n i = (u : Int)) (hs : u ∈ q ∨ t.fl i = true ∨ cfN pts tris p u = false) : clT pts tris p q k (i + 1) := by
 intro x s hx hs' m hm hj w hw hf hc
 by_cases e : x = k ∧ m = i
 ·obtain ⟨rfl, rfl⟩ := e
  rw [ht] at hs'
  obtain rfl : t = s := Option.some.inj hs'
  have huw : u = w := by omega
  subst huw
  rcases hs with g | g | g
  ·exact g
  ·rw [g] at hf; cases hf
  ·rw [g] at hc; cases hc
 ·exact h x s hx hs' m hm (by omega) w hw hf hc
theorem clT.next (h : clT pts tris p q k 3) : clT pts tris p q (k + 1) 0 := fun x t hx ht m hm hj => h x t hx ht m hm (by omega)
theorem Tk.push (h : Tk pts tris p I q) {t : Tr} {u : Nat} (hi : i < 3) (hx : k ∈ q) (ht : tris[k]? = some t) (hu : t.n i = (u : Int)) (hn : ¬ u ∈ q) (hl : lvT tris u) (hf : t.fl i = false) (hc : cfN pts tris p u = true) : Tk pts tris p I (q ++ [u]) := by
 refine ⟨?_, ?_, fun y hy => List.mem_append_left _ (h.ini y hy), ?_⟩
 ·rw [List.nodup_append]
  refine ⟨h.nd, by simp, fun a ha b hb => ?_⟩
  rw [List.mem_singleton] at hb
  subst hb
  exact fun e => hn (e ▸ ha)
 ·intro y hy
  rcases List.mem_append.1 hy with hy | hy
  ·exact h.lv y hy
  ·rw [List.mem_singleton] at hy; subst hy; exact hl
 ·intro D hD hcl y hy
  have hq := h.mn D hD hcl
  rcases List.mem_append.1 hy with hy | hy
  ·exact hq y hy
  ·rw [List.mem_singleton] at hy
   subst hy
   exact hcl k t (hq k hx) ht i hi _ hu hf hc
theorem Tk.len (h : Tk pts tris p I q) : q.length ≤ tris.length := by
 have := h.nd.length_le_of_subset (l₂ := List.range tris.length) (fun x hx => by
  obtain ⟨t, ht, _⟩ := h.lv x hx
  exact List.mem_range.2 (List.getElem?_eq_some_iff.1 ht).1)
 rw [List.length_range] at this
 exact this
theorem Tk.done (h : Tk pts tris p I q) (hc : clT pts tris p q tris.length 0) {ts : List Nat} (hD : DgOk pts tris p I ts) : (∀ x, x ∈ ts → x ∈ q) ∧ ts.length = q.length := by
 have h1 : ∀ x, x ∈ ts → x ∈ q := hD.mn (· ∈ q) h.ini (fun n t hn ht i hi u hu hf hcf => hc n t hn ht i hi (.inl (List.getElem?_eq_some_iff.1 ht).1) u hu hf hcf)
 have h2 : ∀ x, x ∈ q → x ∈ ts := h.mn (· ∈ ts) hD.ini hD.cl
 have hn : ts.Nodup := hD.so.imp (fun {a b} q => by omega)
 refine ⟨h1, ?_⟩
 have a := hn.length_le_of_subset h1
 have b := h.nd.length_le_of_subset h2
 omega
end
section
variable {κ ν : Type} [DecidableEq κ] {f : κ → Value} {g : ν → Value} {r c : Nat} {l : List (κ × ν × Nat)} {E : Env} {σ : List (Nat × Value)} {μ φ : List Res} {ty : TypeId}
variable {Q : Qt} {ops : Array Oper} {rest : List Oper} {pos : String} {af : Array Edge} {gd : Option (Nat × Bool)}
theorem OJ_insert {t kt et : TypeId} {x y z : Operand} {k : κ} {v : ν} {l' : List (κ × ν × Nat)} {c' : Nat} (n : Nat) (hk : μ[n]? = some (mapR r f g l c)) (hx : oev σ x = some (.map (some r))) (hy : oev σ y = some (f k)) (hz : oev σ z = some (g v)) (hu : E.P.underlying t = some (.map kt et)) (hK : KeyT E.P kt f)
  (hl : mput k v l c = l') (hc : mclk k l c = c') : OJ E (.insert t x y z) ty σ μ φ (fun _ μ' φ' => μ' = μ.set n (mapR r f g l' c') ∧ φ' = φ) :=
 fun a w d pos af g K Q hs hm hK' => OJ_mapUpdate (ty := ty) n hk hx hy hz hu hK hl hc a w d pos af g K Q hs hm hK'
theorem LJ_insert {t kt et : TypeId} {x y z : Operand} {k : κ} {v : ν} {l' : List (κ × ν × Nat)} {c' : Nat} (n : Nat) (hg : grd ops σ gd = some true) (hk : μ[n]? = some (mapR r f g l c)) (hx : oev σ x = some (.map (some r))) (hy : oev σ y = some (f k)) (hz : oev σ z = some (g v)) (hu : E.P.underlying t = some (.map kt et)) (hK : KeyT E.P kt f)
  (hl : mput k v l c = l') (hc : mclk k l c = c') (h : LJ E Q ops rest σ (μ.set n (mapR r f g l' c')) φ) : LJ E Q ops (⟨none, .insert t x y z, ty, pos, af, gd⟩ :: rest) σ μ φ :=
 LJ_o0 hg (OJ_insert n hk hx hy hz hu hK hl hc) (by rintro _ _ _ ⟨rfl, rfl⟩; exact h)
end
theorem mm_inj {t : Tr} (hd : dist3 (t.v0, t.v1, t.v2)) {k j : Nat} (hk : k < 3) (hj : j < 3) (h1 : min (t.v ((k + 1) % 3)) (t.v ((k + 2) % 3)) = min (t.v ((j + 1) % 3)) (t.v ((j + 2) % 3))) (h2 : max (t.v ((k + 1) % 3)) (t.v ((k + 2) % 3)) = max (t.v ((j + 1) % 3)) (t.v ((j + 2) % 3))) : k = j := by
 obtain ⟨d1, d2, d3⟩ := hd
 dsimp only at d1 d2 d3
 have e0 : ∀ t : Tr, t.v 0 = t.v0 := fun _ => rfl
 have e1 : ∀ t : Tr, t.v 1 = t.v1 := fun _ => rfl
 have e2 : ∀ t : Tr, t.v 2 = t.v2 := fun _ => rfl
 match k, hk, j, hj with
 | 0, _, 0, _ => rfl
 | 1, _, 1, _ => rfl
 | 2, _, 2, _ => rfl
 | 0, _, 1, _ => simp only [Nat.zero_add, Nat.reduceMod, Nat.reduceAdd, e0, e1, e2] at h1 h2; omega
 | 1, _, 0, _ => simp only [Nat.zero_add, Nat.reduceMod, Nat.reduceAdd, e0, e1, e2] at h1 h2; omega
 | 1, _, 2, _ => simp only [Nat.zero_add, Nat.reduceMod, Nat.reduceAdd, e0, e1, e2] at h1 h2; omega
 | 2, _, 1, _ => simp only [Nat.zero_add, Nat.reduceMod, Nat.reduceAdd, e0, e1, e2] at h1 h2; omega
 | 0, _, 2, _ => simp only [Nat.zero_add, Nat.reduceMod, Nat.reduceAdd, e0, e1, e2] at h1 h2; omega
 | 2, _, 0, _ => simp only [Nat.zero_add, Nat.reduceMod, Nat.reduceAdd, e0, e1, e2] at h1 h2; omega
theorem lt_at {ts : List Nat} (h : ts.Pairwise (· < ·)) {i j x y : Nat} (hx : ts[i]? = some x) (hy : ts[j]? = some y) (hij : i < j) : x < y := by
 obtain ⟨w1, w2⟩ := List.getElem?_eq_some_iff.1 hx
 obtain ⟨w3, w4⟩ := List.getElem?_eq_some_iff.1 hy
 have := List.pairwise_iff_getElem.1 h i j w1 w3 hij
 rw [w2, w4] at this
 exact this
theorem if_next {α : Type} {a b : α} {z k : Nat} (h : z ≠ k) : (if z < k + 1 then a else b) = if z < k then a else b := by
 by_cases h1 : z < k
 ·rw [if_pos h1, if_pos (by omega)]
 ·rw [if_neg h1, if_neg (by omega)]
end Go.Proofs.Ytbanlhlggkdanaa
namespace Go.Proofs.Ytbanlhlggkdanaa
open Go.RowKit
theorem ent_11 : Enter Try.prog 11 = true := by kernel_rfl
set_option maxRecDepth 100000 in
set_option maxHeartbeats 32000000 in
theorem cavityTakes_c {v fa x y : Int} (hv : 0 ≤ v ∧ v < 4294967296) (hf : 0 ≤ fa ∧ fa < 4294967296) : Tri Try.prog 11 [.int .u32 v, .int .u32 fa, ptv x y] [] [] (Ret0 (.bool true)) := by
 refine Tri_of (N := 166) Try.func11 rfl ent_11 rfl rfl ?_
 intro w0 S0 T0
 show CJ _ _ _ [(0, _), (1, _), (2, _)] _ _
 refine CJ_seq ?_
 refine CJ_reg ?_
 refine LJ_box (cs := #[_, _]) rfl rfl rfl rfl ?_
 intro b1
 refine LJ_y rfl rfl (YJ_assign rfl) ?_
 refine LJ_nil ?_
 refine QJ_then ?_
 refine CJ_seq ?_
 refine CJ_seq ?_
 refine CJ_reg ?_
 refine LJ_call0 rfl rfl rfl rfl rfl fit11_c (fun _ h => nomatch h) ?_
 refine LJ_y rfl rfl (YJ_not rfl) ?_
 refine LJ_nil ?_
 refine QJ_then ?_
 refine CJ_condF rfl ?_
 refine CJ_skip ?_
 refine QJ_then ?_
 refine CJ_seq ?_
 refine CJ_reg ?_
 refine LJ_y rfl rfl (YJ_move rfl) ?_
 refine LJ_y rfl rfl (YJ_move rfl) ?_
 refine LJ_y rfl rfl (YJ_loadN (vs := [_, _]) rfl tyi_23 m0 rfl rfl) ?_
 refine LJ_callX rfl rfl rfl rfl rfl (made11_c hv hf) (fun _ h => nomatch h) ?_
 rintro ⟨B9, M9, hm, gT⟩ ⟨F9, V9, hG, hmF, hmA, hmT⟩
 dsimp only at hG hmF hmA hmT
 have hgp := (gPts_ok (gW_or (v / 256)) (gW_or (v / 512))).2
 have hgl := (gPts_ok (gW_or (v / 256)) (gW_or (v / 512))).1
 rw [← hG.pts] at hgp hgl
 have hP : ∀ j, j < M9.pts.length → P2 (M9.pts.getD j (0, 0)).1 (M9.pts.getD j (0, 0)).2 := by
  intro j hj
  have := hgp (M9.pts.getD j (0, 0)) (by rw [List.getD_eq_getElem?_getD, List.getElem?_eq_getElem hj]; exact List.getElem_mem hj)
  exact ⟨⟨by omega, by omega⟩, ⟨by omega, by omega⟩⟩
 have hlen100 : M9.tris.length ≤ 100 := hG.len
 have hlen : M9.tris.length ≤ 1000000 := Nat.le_trans hG.len (by decide)
 have hpl : M9.pts.length ≤ 1000000 := Nat.le_trans hgl (by decide)
 have hal : M9.ats.length ≤ 1000000 := by
  rw [hG.ats, ← hG.pts]
  exact hpl
 obtain ⟨z9, hz9⟩ : ∃ z, look M9.pts M9.tris (tm x, tm y) = z := ⟨_, rfl⟩
 obtain ⟨kd, zn, pa, pb⟩ := z9
 dsimp only
 rw [hz9]
 dsimp only [plV]
 refine LJ_y rfl rfl (YJ_move rfl) ?_
 refine LJ_y rfl rfl (YJ_extract rfl rfl) ?_
 refine LJ_y rfl rfl (YJ_extract rfl rfl) ?_
 refine LJ_y rfl rfl (YJ_extract rfl rfl) ?_
 refine LJ_y rfl rfl (YJ_extract rfl rfl) ?_
 refine LJ_alloc (cs := #[_, _, _, _]) rfl rfl zer_42 rfl ?_
 intro b2
 refine LJ_y rfl rfl (YJ_assign rfl) ?_
 refine LJ_store (cs' := #[_, _]) (μ' := [_, _]) 1 rfl rfl rfl rfl tyi_23 rfl (Nat.le_of_ble_eq_true rfl) rfl rfl rfl ?_
 refine LJ_store (cs' := #[_, _, _, _]) (μ' := [_, _]) 0 rfl rfl rfl rfl tyi_42 rfl (Nat.le_of_ble_eq_true rfl) rfl rfl rfl ?_
 refine LJ_y rfl rfl (YJ_assign rfl) ?_
 refine LJ_nil ?_
 refine QJ_then ?_
 refine CJ_seq ?_
 refine CJ_seq ?_
 refine CJ_reg ?_
 refine LJ_y rfl rfl (YJ_move rfl) ?_
 refine LJ_y rfl rfl (YJ_not rfl) ?_
 refine LJ_nil ?_
 refine QJ_then ?_
 refine CJ_cond rfl (fun h34 => ?_) (fun h34 => ?_)
 ·simp only [decide_eq_true_eq, Bool.not_eq_true', Bool.not_eq_false'] at h34
  refine CJ_seq ?_
  refine CJ_reg ?_
  refine LJ_y rfl rfl (YJ_assign rfl) ?_
  refine LJ_nil ?_
  refine QJ_then ?_
  refine CJ_ret ?_
  refine QJ_then_ret ?_
  refine QJ_fin (.inl rfl) (μ' := []) (μr := _) (φ' := []) (res_tmp rfl rfl) (List.Perm.refl _) (fun _ h => nomatch h) ?_
  exact ⟨rfl, rfl, rfl⟩
 ·simp only [decide_eq_false_iff_not, Bool.not_eq_true', Bool.not_eq_false'] at h34
  obtain ⟨kd9, pa9, pb9, n0, n1, t0, q0, hI⟩ := hG.init (p := (tm x, tm y)) (gW_or _) (gW_or _) (by rw [hz9]; exact h34)
  have hpl9 := hz9.symm.trans hI.pl
  rw [Prod.mk.injEq, Prod.mk.injEq, Prod.mk.injEq] at hpl9
  obtain ⟨rfl, rfl, rfl, rfl⟩ := hpl9
  have hn0l := (List.getElem?_eq_some_iff.1 hI.ht0).1
  have hMs := hG.ms
  refine CJ_skip ?_
  refine QJ_then ?_
  refine CJ_seq ?_
  refine CJ_reg ?_
  refine LJ_makeMap rfl rfl ?_
  intro im
  refine LJ_y rfl rfl (YJ_fieldOwn rfl fld_42_1 rfl) ?_
  refine LJ_y rfl rfl (YJ_loadL rfl tyi_3 m1 rfl) ?_
  show LJ _ _ _ _ _ (mapR im gI gI [] 0 :: _ :: _ :: _) _
  refine LJ_insert (f := gI) (g := gI) (k := (n0 : Int)) (v := (1 : Int)) 0 rfl rfl rfl rfl rfl umap_70 keyI rfl rfl ?_
  show LJ _ _ _ _ _ (_ :: _ :: _ :: _) _
  refine LJ_y rfl rfl (YJ_move rfl) ?_
  refine LJ_y rfl rfl (YJ_assign rfl) ?_
  refine LJ_nil ?_
  refine QJ_then ?_
  refine CJ_seqC (F := fun (i : MI × Nat) => ⟨[(5, .pointer (some ⟨b1, 0, none⟩)), (7, .pointer (some ⟨B9, 0, none⟩)), (8, .pointer (some ⟨b2, 0, none⟩)), (10, .map (some im))], [mapR im gI gI i.1 i.2, cellsR b2 #[.int .i64 kd, .int .i64 (n0 : Nat), .int .i64 pa, .int .i64 pb] 42, cellsR b1 #[.int .i64 (tm x), .int .i64 (tm y)] 23], (frzFs B9 M9 hm ++ [])⟩) (I := fun (i : MI × Nat) => InQ i.1 q0) ?_ ?_
  ·skip
   refine CJ_seq ?_
   refine CJ_reg ?_
   refine LJ_y rfl rfl (YJ_fieldOwn rfl fld_42_0 rfl) ?_
   refine LJ_y rfl rfl (YJ_loadL rfl tyi_3 m1 rfl) ?_
   refine LJ_y rfl rfl (YJ_bin rfl rfl rfl) ?_
   refine LJ_nil ?_
   refine QJ_then ?_
   refine CJ_cond rfl (fun h41 => ?_) (fun h41 => ?_)
   ·simp only [decide_eq_true_eq] at h41
    obtain ⟨kz, hkz, hpa, hpb, hnz, hp0⟩ := hI.ed h41
    have hn10 : ¬ n1 ∈ [n0] := by
     have := hI.nd
     rw [hI.hq0, if_pos h41] at this
     simp at this ⊢
     omega
    refine CJ_seq ?_
    refine CJ_reg ?_
    refine LJ_y rfl rfl (YJ_move rfl) ?_
    refine LJ_nil ?_
    refine QJ_then ?_
    refine CJ_block ?_
    refine CJ_loopF (F := fun (i : Nat × MI × Nat) => ⟨[(5, .pointer (some ⟨b1, 0, none⟩)), (7, .pointer (some ⟨B9, 0, none⟩)), (8, .pointer (some ⟨b2, 0, none⟩)), (10, .map (some im)), (42, .int .i64 (i.1 : Nat))], [mapR im gI gI i.2.1 i.2.2], []⟩) (I := fun (i : Nat × MI × Nat) => i.1 ≤ 3 ∧ InQ i.2.1 (if kz < i.1 then [n0, n1] else [n0])) (m := fun (i : Nat × MI × Nat) => 3 - i.1) (0, mput (n0 : Int) 1 [] 0, mclk (n0 : Int) ([] : MI) 0) (μr := [_, _]) ⟨Nat.zero_le _, by dsimp only; rw [if_neg (Nat.not_lt_zero _)]; exact InQ.nil.put (by simp) 0⟩ (And.intro rfl (And.intro rfl (And.intro rfl (And.intro rfl (And.intro rfl (trivial)))))) (permI [] rfl) (fun _ h => nomatch h) ?_
    rintro ⟨k, L, c⟩ ⟨hk, hQ⟩
    try dsimp only at hk
    try dsimp only at hQ
    show CJ _ _ _ [(5, .pointer (some ⟨b1, 0, none⟩)), (7, .pointer (some ⟨B9, 0, none⟩)), (8, .pointer (some ⟨b2, 0, none⟩)), (10, .map (some im)), (42, .int .i64 (k : Nat))] (mapR im gI gI L c :: _ :: _ :: _) _
    refine CJ_seq ?_
    refine CJ_reg ?_
    refine LJ_y rfl rfl (YJ_bin rfl rfl rfl) ?_
    refine LJ_nil ?_
    refine QJ_then ?_
    refine CJ_seq ?_
    refine CJ_cond rfl (fun h43 => ?_) (fun h43 => ?_)
    ·simp only [decide_eq_true_eq] at h43
     have hk3 : k < 3 := by omega
     refine CJ_skip ?_
     refine QJ_then ?_
     refine CJ_seq ?_
     refine CJ_block ?_
     refine CJ_seq ?_
     refine CJ_reg ?_
     refine LJ_y rfl rfl (YJ_move rfl) ?_
     refine LJ_y rfl rfl (YJ_assign rfl) ?_
     refine LJ_nil ?_
     refine QJ_then ?_
     refine CJ_seq ?_
     refine CJ_regD mix (by kernel_rfl) (fun _ _ _ _ _ h => h) _ _ (fun _ h => h) (fun _ h => h) ?_
     refine AJ_y 0 rfl (by kernel_rfl) (by kernel_rfl) rfl rfl (YJ_move rfl) ?_
     refine AJ_y 1 rfl (by kernel_rfl) (by kernel_rfl) rfl rfl (YJ_nilCheck rfl) ?_
     refine AJ_y 2 rfl (by kernel_rfl) (by kernel_rfl) rfl rfl (YJ_fieldOwn rfl fld_57_1 rfl) ?_
     refine AJ_y 3 rfl (by kernel_rfl) (by kernel_rfl) rfl rfl (YJ_loadFactP (A := some ⟨B9, 0, none⟩) (j := 1) rfl rfl tyi_54 m0 rfl) ?_
     refine AJ_y 4 rfl (by kernel_rfl) (by kernel_rfl) rfl rfl (YJ_fieldOwn rfl fld_42_1 rfl) ?_
     refine AJ_y 5 rfl (by kernel_rfl) (by kernel_rfl) rfl rfl (YJ_loadL rfl tyi_3 m1 rfl) ?_
     refine AJ_y 6 rfl (by kernel_rfl) (by kernel_rfl) rfl rfl (YJ_ixFact (n' := M9.tris.length) rfl rfl elt_54 m2 (by decide) (by omega) (by omega) (by omega)) ?_
     refine AJ_y 7 rfl (by kernel_rfl) (by kernel_rfl) rfl rfl (YJ_loadFactN (vs := [.int .i64 t0.v0, .int .i64 t0.v1, .int .i64 t0.v2, .int .i64 t0.n0, .int .i64 t0.n1, .int .i64 t0.n2, .bool t0.f0, .bool t0.f1, .bool t0.f2]) (xs := trCells M9.tris) rfl tyi_37 m2 (trCells_row (cast_idx hI.ht0)) rfl) ?_
     refine AJ_y 8 rfl (by kernel_rfl) (by kernel_rfl) rfl rfl (YJ_move rfl) ?_
     refine AJ_call0 9 rfl (by kernel_rfl) rfl rfl rfl rfl rfl (edge11_c (t := t0) hk3) (fun _ h => nomatch h) ?_
     refine AJ_y 10 rfl (by kernel_rfl) (by kernel_rfl) rfl rfl (YJ_move rfl) ?_
     refine AJ_y 11 rfl (by kernel_rfl) (by kernel_rfl) rfl rfl (YJ_extract rfl rfl) ?_
     refine AJ_y 12 rfl (by kernel_rfl) (by kernel_rfl) rfl rfl (YJ_extract rfl rfl) ?_
     refine AJ_y 13 rfl (by kernel_rfl) (by kernel_rfl) rfl rfl (YJ_assign rfl) ?_
     refine AJ_y 14 rfl (by kernel_rfl) (by kernel_rfl) rfl rfl (YJ_assign rfl) ?_
     refine AJ_done (by kernel_rfl) ?_
     refine QJ_then ?_
     refine CJ_seq ?_
     refine CJ_reg ?_
     refine LJ_y rfl rfl (YJ_move rfl) ?_
     refine LJ_y rfl rfl (YJ_move rfl) ?_
     refine LJ_y rfl rfl (YJ_min2 rfl rfl) ?_
     refine LJ_y rfl rfl (YJ_fieldOwn rfl fld_42_2 rfl) ?_
     refine LJ_y rfl rfl (YJ_loadL rfl tyi_3 m1 rfl) ?_
     refine LJ_y rfl rfl (YJ_bin rfl rfl rfl) ?_
     refine LJ_y rfl rfl (YJ_move rfl) ?_
     refine LJ_boolC (fun h64 => ?_) (fun h64 => ?_)
     ·simp only [decide_eq_true_eq] at h64
      refine LJ_y rfl rfl (YJ_move rfl) ?_
      refine LJ_y rfl rfl (YJ_move rfl) ?_
      refine LJ_y rfl rfl (YJ_max2 rfl rfl) ?_
      refine LJ_y rfl rfl (YJ_fieldOwn rfl fld_42_3 rfl) ?_
      refine LJ_y rfl rfl (YJ_loadL rfl tyi_3 m1 rfl) ?_
      refine LJ_y rfl rfl (YJ_bin rfl rfl rfl) ?_
      refine LJ_y rfl rfl (YJ_pickT rfl rfl) ?_
      refine LJ_nil ?_
      refine QJ_then ?_
      refine CJ_cond rfl (fun h71 => ?_) (fun h71 => ?_)
      ·simp only [decide_eq_true_eq] at h71
       have hkz1 : k = kz := mm_inj hI.dd hk3 hkz (h64.trans hpa) (h71.trans hpb)
       refine CJ_regD mix (by kernel_rfl) (fun _ _ _ _ _ h => h) (selR [1, 2] _) _ (selR_sub _ _) (fun _ h => h) ?_
       refine AJ_y 0 rfl (by kernel_rfl) (by kernel_rfl) rfl rfl (YJ_move rfl) ?_
       refine AJ_y 1 rfl (by kernel_rfl) (by kernel_rfl) rfl rfl (YJ_move rfl) ?_
       refine AJ_y 2 rfl (by kernel_rfl) (by kernel_rfl) rfl rfl (YJ_nilCheck rfl) ?_
       refine AJ_y 3 rfl (by kernel_rfl) (by kernel_rfl) rfl rfl (YJ_fieldOwn rfl fld_57_1 rfl) ?_
       refine AJ_y 4 rfl (by kernel_rfl) (by kernel_rfl) rfl rfl (YJ_loadFactP (A := some ⟨B9, 0, none⟩) (j := 1) rfl rfl tyi_54 m0 rfl) ?_
       refine AJ_y 5 rfl (by kernel_rfl) (by kernel_rfl) rfl rfl (YJ_fieldOwn rfl fld_42_1 rfl) ?_
       refine AJ_y 6 rfl (by kernel_rfl) (by kernel_rfl) rfl rfl (YJ_loadL rfl tyi_3 m0 rfl) ?_
       refine AJ_y 7 rfl (by kernel_rfl) (by kernel_rfl) rfl rfl (YJ_move rfl) ?_
       refine AJ_y 8 rfl (by kernel_rfl) (by kernel_rfl) rfl rfl (YJ_ixFact (n' := M9.tris.length) rfl rfl elt_54 m2 (by decide) (by omega) (by omega) (by omega)) ?_
       refine AJ_y 9 rfl (by kernel_rfl) (by kernel_rfl) rfl rfl (YJ_fieldAddr rfl fld_37_1) ?_
       refine AJ_y 10 rfl (by kernel_rfl) (by kernel_rfl) rfl rfl (YJ_ixArrP rfl rfl arrt_34 (by omega) (by omega)) ?_
       refine AJ_y 11 rfl (by kernel_rfl) (by kernel_rfl) rfl rfl (YJ_loadFactP (A := hm.T) (j := n0 * 9 + (3 + k)) rfl (by rw [Addr.add_add, Addr.add_add]; congr 1; omega) tyi_3 m2 (trCells_n hI.ht0 hk3)) ?_
       refine AJ_val (v := .int .i64 (n1 : Nat)) (congrArg (Value.int .i64) (by rw [hkz1, hnz])) ?_
       refine AJ_mapUpdate (f := gI) (g := gI) (k := (n1 : Int)) (v := (1 : Int)) 12 0 rfl (by kernel_rfl) rfl rfl rfl rfl rfl umap_70 keyI rfl rfl (AllIn.sub (And.intro m1 (And.intro m2 (trivial)))) ?_
       show AJ _ _ _ _ _ _ _ _ (_ :: _ :: _ :: _) _
       refine AJ_done (by kernel_rfl) ?_
       refine QJ_in_normal ?_
       refine QJ_then ?_
       refine CJ_reg ?_
       refine LJ_y rfl rfl (YJ_bin rfl rfl (iop_add (by omega))) ?_
       refine LJ_y rfl rfl (YJ_move rfl) ?_
       refine LJ_nil ?_
       refine QJ_roundF (F := fun (i : Nat × MI × Nat) => ⟨[(5, .pointer (some ⟨b1, 0, none⟩)), (7, .pointer (some ⟨B9, 0, none⟩)), (8, .pointer (some ⟨b2, 0, none⟩)), (10, .map (some im)), (42, .int .i64 (i.1 : Nat))], [mapR im gI gI i.2.1 i.2.2], []⟩) (I := fun (i : Nat × MI × Nat) => i.1 ≤ 3 ∧ InQ i.2.1 (if kz < i.1 then [n0, n1] else [n0])) (m := fun (i : Nat × MI × Nat) => 3 - i.1) (i := (k, L, c)) ((k + 1, mput (n1 : Int) 1 L c, mclk (n1 : Int) L c)) (μd := []) ⟨by dsimp only; omega, by dsimp only; rw [if_pos (by omega)]; rw [if_neg (by omega)] at hQ; exact hQ.put hn10 c⟩ (by dsimp only; omega) (And.intro rfl (And.intro rfl (And.intro rfl (And.intro rfl (And.intro rfl (trivial)))))) (permI [] rfl) (fun _ h => nomatch h) (fun _ h => h)
      ·simp only [decide_eq_false_iff_not] at h71
       refine CJ_skip ?_
       refine QJ_in_normal ?_
       refine QJ_then ?_
       refine CJ_reg ?_
       refine LJ_y rfl rfl (YJ_bin rfl rfl (iop_add (by omega))) ?_
       refine LJ_y rfl rfl (YJ_move rfl) ?_
       refine LJ_nil ?_
       refine QJ_roundF (F := fun (i : Nat × MI × Nat) => ⟨[(5, .pointer (some ⟨b1, 0, none⟩)), (7, .pointer (some ⟨B9, 0, none⟩)), (8, .pointer (some ⟨b2, 0, none⟩)), (10, .map (some im)), (42, .int .i64 (i.1 : Nat))], [mapR im gI gI i.2.1 i.2.2], []⟩) (I := fun (i : Nat × MI × Nat) => i.1 ≤ 3 ∧ InQ i.2.1 (if kz < i.1 then [n0, n1] else [n0])) (m := fun (i : Nat × MI × Nat) => 3 - i.1) (i := (k, L, c)) ((k + 1, L, c)) (μd := []) ⟨by dsimp only; omega, by dsimp only; rw [if_next (fun e => by subst e; exact h71 hpb.symm)]; exact hQ⟩ (by dsimp only; omega) (And.intro rfl (And.intro rfl (And.intro rfl (And.intro rfl (And.intro rfl (trivial)))))) (permI [] rfl) (fun _ h => nomatch h) (fun _ h => h)
     ·simp only [decide_eq_false_iff_not] at h64
      refine LJ_skip rfl rfl ?_
      refine LJ_skip rfl rfl ?_
      refine LJ_skip rfl rfl ?_
      refine LJ_skip rfl rfl ?_
      refine LJ_skip rfl rfl ?_
      refine LJ_skip rfl rfl ?_
      refine LJ_y rfl rfl (YJ_pickF rfl rfl) ?_
      refine LJ_nil ?_
      refine QJ_then ?_
      refine CJ_condF rfl ?_
      refine CJ_skip ?_
      refine QJ_in_normal ?_
      refine QJ_then ?_
      refine CJ_reg ?_
      refine LJ_y rfl rfl (YJ_bin rfl rfl (iop_add (by omega))) ?_
      refine LJ_y rfl rfl (YJ_move rfl) ?_
      refine LJ_nil ?_
      refine QJ_roundF (F := fun (i : Nat × MI × Nat) => ⟨[(5, .pointer (some ⟨b1, 0, none⟩)), (7, .pointer (some ⟨B9, 0, none⟩)), (8, .pointer (some ⟨b2, 0, none⟩)), (10, .map (some im)), (42, .int .i64 (i.1 : Nat))], [mapR im gI gI i.2.1 i.2.2], []⟩) (I := fun (i : Nat × MI × Nat) => i.1 ≤ 3 ∧ InQ i.2.1 (if kz < i.1 then [n0, n1] else [n0])) (m := fun (i : Nat × MI × Nat) => 3 - i.1) (i := (k, L, c)) ((k + 1, L, c)) (μd := []) ⟨by dsimp only; omega, by dsimp only; rw [if_next (fun e => by subst e; exact h64 hpa.symm)]; exact hQ⟩ (by dsimp only; omega) (And.intro rfl (And.intro rfl (And.intro rfl (And.intro rfl (And.intro rfl (trivial)))))) (permI [] rfl) (fun _ h => nomatch h) (fun _ h => h)
    ·simp only [decide_eq_false_iff_not] at h43
     refine CJ_exit ?_
     refine QJ_then_exit ?_
     refine QJ_then_exit ?_
     refine QJ_in_exit ?_
     refine QJ_cut ((L, c)) (μr := []) (by rw [if_pos (show kz < k by omega)] at hQ; show InQ L q0; rw [hI.hq0, if_pos h41]; exact hQ) (And.intro rfl (And.intro rfl (And.intro rfl (And.intro rfl (trivial))))) (permI [] rfl) (fun _ h => h)
   ·simp only [decide_eq_false_iff_not] at h41
    refine CJ_skip ?_
    refine QJ_cut ((mput (n0 : Int) 1 [] 0, mclk (n0 : Int) ([] : MI) 0)) (μr := []) (by show InQ _ q0; rw [hI.hq0, if_neg h41]; exact InQ.nil.put (by simp) 0) (And.intro rfl (And.intro rfl (And.intro rfl (And.intro rfl (trivial))))) (permI [] rfl) (fun _ h => h)
  ·rintro ⟨L, c⟩ hQ0
   show CJ _ _ _ [(5, .pointer (some ⟨b1, 0, none⟩)), (7, .pointer (some ⟨B9, 0, none⟩)), (8, .pointer (some ⟨b2, 0, none⟩)), (10, .map (some im))] [mapR im gI gI L c, cellsR b2 #[.int .i64 kd, .int .i64 (n0 : Nat), .int .i64 pa, .int .i64 pb] 42, cellsR b1 #[.int .i64 (tm x), .int .i64 (tm y)] 23] _
   refine CJ_seq ?_
   refine CJ_seq ?_
   refine CJ_reg ?_
   refine LJ_y rfl rfl (YJ_assign rfl) ?_
   refine LJ_nil ?_
   refine QJ_then ?_
   refine CJ_block ?_
   refine CJ_loopF (F := fun (i : List Nat × MI × Nat × Bool) => ⟨[(5, .pointer (some ⟨b1, 0, none⟩)), (7, .pointer (some ⟨B9, 0, none⟩)), (8, .pointer (some ⟨b2, 0, none⟩)), (10, .map (some im)), (14, .bool i.2.2.2)], [mapR im gI gI i.2.1 i.2.2.1], []⟩) (I := fun (i : List Nat × MI × Nat × Bool) => Tk M9.pts M9.tris (tm x, tm y) q0 i.1 ∧ InQ i.2.1 i.1 ∧ (i.2.2.2 = false → clT M9.pts M9.tris (tm x, tm y) i.1 M9.tris.length 0)) (m := fun (i : List Nat × MI × Nat × Bool) => 2 * (M9.tris.length - i.1.length) + (if i.2.2.2 then 1 else 0)) (q0, L, c, true) (μr := [_, _]) ⟨Tk.start hI.nd hI.lv, hQ0, fun q => by cases q⟩ (And.intro rfl (And.intro rfl (And.intro rfl (And.intro rfl (And.intro rfl (trivial)))))) (permI [] rfl) (fun _ h => nomatch h) ?_
   rintro ⟨q, L, c, ag⟩ ⟨hT, hQ, hcl⟩
   try dsimp only at hT
   try dsimp only at hQ
   try dsimp only at hcl
   show CJ _ _ _ [(5, .pointer (some ⟨b1, 0, none⟩)), (7, .pointer (some ⟨B9, 0, none⟩)), (8, .pointer (some ⟨b2, 0, none⟩)), (10, .map (some im)), (14, .bool ag)] (mapR im gI gI L c :: _ :: _ :: _) _
   refine CJ_seq ?_
   refine CJ_seq ?_
   refine CJ_reg ?_
   refine LJ_y rfl rfl (YJ_move rfl) ?_
   refine LJ_nil ?_
   refine QJ_then ?_
   refine CJ_cond rfl (fun h85 => ?_) (fun h85 => ?_)
   ·skip
    subst h85
    refine CJ_skip ?_
    refine QJ_then ?_
    refine CJ_block ?_
    refine CJ_seq ?_
    refine CJ_reg ?_
    refine LJ_y rfl rfl (YJ_assign rfl) ?_
    refine LJ_nil ?_
    refine QJ_then ?_
    refine CJ_seq ?_
    refine CJ_reg ?_
    refine LJ_y rfl rfl (YJ_move rfl) ?_
    refine LJ_y rfl rfl (YJ_nilCheck rfl) ?_
    refine LJ_y rfl rfl (YJ_fieldOwn rfl fld_57_1 rfl) ?_
    refine LJ_y rfl rfl (YJ_loadFactP (A := some ⟨B9, 0, none⟩) (j := 1) rfl rfl tyi_54 m0 rfl) ?_
    refine LJ_y rfl rfl (YJ_len rfl ulen_54 rfl) ?_
    refine LJ_y rfl rfl (YJ_move rfl) ?_
    refine LJ_nil ?_
    refine QJ_then ?_
    refine CJ_block ?_
    refine CJ_loopF (F := fun (i : Nat × List Nat × MI × Nat × Bool) => ⟨[(5, .pointer (some ⟨b1, 0, none⟩)), (7, .pointer (some ⟨B9, 0, none⟩)), (8, .pointer (some ⟨b2, 0, none⟩)), (10, .map (some im)), (14, .bool i.2.2.2.2), (89, .slice hm.T M9.tris.length hm.ct), (90, .int .i64 M9.tris.length), (91, .int .i64 (i.1 : Nat))], [mapR im gI gI i.2.2.1 i.2.2.2.1], []⟩) (I := fun (i : Nat × List Nat × MI × Nat × Bool) => i.1 ≤ M9.tris.length ∧ Tk M9.pts M9.tris (tm x, tm y) q0 i.2.1 ∧ InQ i.2.2.1 i.2.1 ∧ (i.2.2.2.2 = false → clT M9.pts M9.tris (tm x, tm y) i.2.1 i.1 0) ∧ q.length ≤ i.2.1.length ∧ (i.2.2.2.2 = true → q.length < i.2.1.length)) (m := fun (i : Nat × List Nat × MI × Nat × Bool) => M9.tris.length - i.1) (0, q, L, c, false) (μr := [_, _]) ⟨Nat.zero_le _, hT, hQ, fun _ => clT.start, Nat.le_refl _, fun q => by cases q⟩ (And.intro rfl (And.intro rfl (And.intro rfl (And.intro rfl (And.intro rfl (And.intro rfl (And.intro rfl (And.intro rfl (trivial))))))))) (permI [] rfl) (fun _ h => nomatch h) ?_
    rintro ⟨n, q1, L1, c1, ag1⟩ ⟨hn, hT1, hQ1, hcl1, hl1, ha1⟩
    try dsimp only at hn
    try dsimp only at hT1
    try dsimp only at hQ1
    try dsimp only at hcl1
    try dsimp only at hl1
    try dsimp only at ha1
    show CJ _ _ _ [(5, .pointer (some ⟨b1, 0, none⟩)), (7, .pointer (some ⟨B9, 0, none⟩)), (8, .pointer (some ⟨b2, 0, none⟩)), (10, .map (some im)), (14, .bool ag1), (89, .slice hm.T M9.tris.length hm.ct), (90, .int .i64 M9.tris.length), (91, .int .i64 (n : Nat))] (mapR im gI gI L1 c1 :: _ :: _ :: _) _
    refine CJ_seq ?_
    refine CJ_reg ?_
    refine LJ_y rfl rfl (YJ_bin rfl rfl rfl) ?_
    refine LJ_nil ?_
    refine QJ_then ?_
    refine CJ_seq ?_
    refine CJ_cond rfl (fun h92 => ?_) (fun h92 => ?_)
    ·simp only [decide_eq_true_eq] at h92
     obtain ⟨t, ht⟩ := get_at h92
     refine CJ_skip ?_
     refine QJ_then ?_
     refine CJ_seq ?_
     refine CJ_block ?_
     refine CJ_seq ?_
     refine CJ_reg ?_
     refine LJ_y rfl rfl (YJ_move rfl) ?_
     refine LJ_y rfl rfl (YJ_ixFact (n' := M9.tris.length) rfl rfl elt_54 m2 (by decide) (by omega) (by omega) (by omega)) ?_
     refine LJ_y rfl rfl (YJ_loadFactN (vs := [.int .i64 t.v0, .int .i64 t.v1, .int .i64 t.v2, .int .i64 t.n0, .int .i64 t.n1, .int .i64 t.n2, .bool t.f0, .bool t.f1, .bool t.f2]) (xs := trCells M9.tris) rfl tyi_37 m2 (trCells_row (cast_idx ht)) rfl) ?_
     refine LJ_alloc (cs := #[_, _, _, _, _, _, _, _, _]) rfl rfl zer_37 rfl ?_
     intro b4
     refine LJ_y rfl rfl (YJ_assign rfl) ?_
     refine LJ_store (cs' := #[.int .i64 t.v0, .int .i64 t.v1, .int .i64 t.v2, .int .i64 t.n0, .int .i64 t.n1, .int .i64 t.n2, .bool t.f0, .bool t.f1, .bool t.f2]) (μ' := [_, _, _, _]) 0 rfl rfl rfl rfl tyi_37 rfl (Nat.le_of_ble_eq_true rfl) rfl (wr_all rfl) rfl ?_
     refine LJ_nil ?_
     refine QJ_then ?_
     refine CJ_seq ?_
     refine CJ_reg ?_
     refine LJ_y rfl rfl (YJ_fieldOwn rfl fld_37_1 rfl) ?_
     refine LJ_y rfl rfl (YJ_loadN (vs := [_, _, _]) rfl tyi_34 m0 rfl rfl) ?_
     refine LJ_y rfl rfl (YJ_move rfl) ?_
     refine LJ_nil ?_
     refine QJ_then ?_
     refine CJ_block ?_
     refine CJ_loopF (F := fun (i : Nat × List Nat × MI × Nat × Bool) => ⟨[(5, .pointer (some ⟨b1, 0, none⟩)), (7, .pointer (some ⟨B9, 0, none⟩)), (8, .pointer (some ⟨b2, 0, none⟩)), (10, .map (some im)), (14, .bool i.2.2.2.2), (15, .int .i64 (n : Nat)), (16, .pointer (some ⟨b4, 0, none⟩)), (89, .slice hm.T M9.tris.length hm.ct), (90, .int .i64 M9.tris.length), (91, .int .i64 (n : Nat)), (97, .agg #[.int .i64 t.n0, .int .i64 t.n1, .int .i64 t.n2]), (98, .int .i64 (i.1 : Nat))], [mapR im gI gI i.2.2.1 i.2.2.2.1], []⟩) (I := fun (i : Nat × List Nat × MI × Nat × Bool) => i.1 ≤ 3 ∧ Tk M9.pts M9.tris (tm x, tm y) q0 i.2.1 ∧ InQ i.2.2.1 i.2.1 ∧ (i.2.2.2.2 = false → clT M9.pts M9.tris (tm x, tm y) i.2.1 n i.1) ∧ q.length ≤ i.2.1.length ∧ (i.2.2.2.2 = true → q.length < i.2.1.length)) (m := fun (i : Nat × List Nat × MI × Nat × Bool) => 3 - i.1) (0, q1, L1, c1, ag1) (μr := [_, _, _]) ⟨Nat.zero_le _, hT1, hQ1, hcl1, hl1, ha1⟩ (And.intro rfl (And.intro rfl (And.intro rfl (And.intro rfl (And.intro rfl (And.intro rfl (And.intro rfl (And.intro rfl (And.intro rfl (And.intro rfl (And.intro rfl (And.intro rfl (trivial))))))))))))) (permI [1] rfl) (fun _ h => nomatch h) ?_
     rintro ⟨k, q2, L2, c2, ag2⟩ ⟨hk, hT2, hQ2, hcl2, hl2, ha2⟩
     try dsimp only at hk
     try dsimp only at hT2
     try dsimp only at hQ2
     try dsimp only at hcl2
     try dsimp only at hl2
     try dsimp only at ha2
     show CJ _ _ _ [(5, .pointer (some ⟨b1, 0, none⟩)), (7, .pointer (some ⟨B9, 0, none⟩)), (8, .pointer (some ⟨b2, 0, none⟩)), (10, .map (some im)), (14, .bool ag2), (15, .int .i64 (n : Nat)), (16, .pointer (some ⟨b4, 0, none⟩)), (89, .slice hm.T M9.tris.length hm.ct), (90, .int .i64 M9.tris.length), (91, .int .i64 (n : Nat)), (97, .agg #[.int .i64 t.n0, .int .i64 t.n1, .int .i64 t.n2]), (98, .int .i64 (k : Nat))] (mapR im gI gI L2 c2 :: _ :: _ :: _ :: _) _
     refine CJ_seq ?_
     refine CJ_reg ?_
     refine LJ_y rfl rfl (YJ_bin rfl rfl rfl) ?_
     refine LJ_nil ?_
     refine QJ_then ?_
     refine CJ_seq ?_
     refine CJ_cond rfl (fun h99 => ?_) (fun h99 => ?_)
     ·simp only [decide_eq_true_eq] at h99
      have hk3 : k < 3 := by omega
      refine CJ_skip ?_
      refine QJ_then ?_
      refine CJ_seq ?_
      refine CJ_block ?_
      refine CJ_seq ?_
      refine CJ_reg ?_
      refine LJ_y rfl rfl (YJ_move rfl) ?_
      refine LJ_y rfl rfl (YJ_index1 rfl rfl arrt_34 tyi_3 (by omega) (by omega) (n_get hk3)) ?_
      refine LJ_y rfl rfl (YJ_assign rfl) ?_
      refine LJ_y rfl rfl (YJ_assign rfl) ?_
      refine LJ_nil ?_
      refine QJ_then ?_
      refine CJ_seq ?_
      refine CJ_reg ?_
      refine LJ_y rfl rfl (YJ_move rfl) ?_
      refine LJ_y rfl rfl (YJ_move rfl) ?_
      refine LJ_y rfl rfl (YJ_lookup (f := gI) (g := gI) (k := (n : Int)) rfl rfl umap_70 keyI zer_3 (MapAt_own (l := L2) (c := c2) m0) rfl) ?_
      refine LJ_val (v := .int .i64 (if n ∈ q2 then 1 else 0)) (hQ2.val n) ?_
      refine LJ_y rfl rfl (YJ_bin rfl rfl rfl) ?_
      refine LJ_val (v := .bool (decide (n ∈ q2))) (congrArg Value.bool (by by_cases hh : n ∈ q2 <;> simp [hh])) ?_
      refine LJ_y rfl rfl (YJ_move rfl) ?_
      refine LJ_boolC (fun h106 => ?_) (fun h106 => ?_)
      ·simp only [decide_eq_true_eq] at h106
       obtain ⟨t', ht', htv⟩ := hT2.lv n h106
       obtain rfl : t = t' := Option.some.inj (ht.symm.trans ht')
       obtain ⟨u, hu, o, ho, ho2⟩ := hMs.nb n t ht htv k hk3
       have hul := (List.getElem?_eq_some_iff.1 ho).1
       refine LJ_y rfl rfl (YJ_move rfl) ?_
       refine LJ_y rfl rfl (YJ_move rfl) ?_
       refine LJ_val (v := .int .i64 (u : Nat)) (congrArg (Value.int .i64) hu) ?_
       refine LJ_y rfl rfl (YJ_lookup (f := gI) (g := gI) (k := (u : Int)) rfl rfl umap_70 keyI zer_3 (MapAt_own (l := L2) (c := c2) m0) rfl) ?_
       refine LJ_val (v := .int .i64 (if u ∈ q2 then 1 else 0)) (hQ2.val u) ?_
       refine LJ_y rfl rfl (YJ_bin rfl rfl rfl) ?_
       refine LJ_val (v := .bool (!decide (u ∈ q2))) (congrArg Value.bool (by by_cases hh : u ∈ q2 <;> simp [hh])) ?_
       refine LJ_y rfl rfl (YJ_pickT rfl rfl) ?_
       refine LJ_y rfl rfl (YJ_move rfl) ?_
       refine LJ_boolC (fun h112 => ?_) (fun h112 => ?_)
       ·simp only [decide_eq_false_iff_not, Bool.not_eq_true'] at h112
        refine LJ_y rfl rfl (YJ_move rfl) ?_
        refine LJ_y rfl rfl (YJ_fieldOwn rfl fld_37_2 rfl) ?_
        refine LJ_y rfl rfl (YJ_ixArr rfl rfl arrt_35 (by omega) (by omega) rfl) ?_
        refine LJ_y rfl rfl (YJ_load1 rfl tyi_4 m1 (fa_get (t := t) hk3)) ?_
        refine LJ_y rfl rfl (YJ_not rfl) ?_
        refine LJ_y rfl rfl (YJ_pickT rfl rfl) ?_
        refine LJ_y rfl rfl (YJ_move rfl) ?_
        refine LJ_boolC (fun h119 => ?_) (fun h119 => ?_)
        ·simp only [Bool.not_eq_true'] at h119
         refine LJ_y rfl rfl (YJ_move rfl) ?_
         refine LJ_y rfl rfl (YJ_move rfl) ?_
         refine LJ_val (v := .int .i64 (u : Nat)) (congrArg (Value.int .i64) hu) ?_
         refine LJ_y rfl rfl (YJ_loadN (vs := [_, _]) rfl tyi_23 m3 rfl rfl) ?_
         refine LJ_call0 rfl rfl rfl rfl rfl (conflict11_c (h := hm) hP ho (hMs.ok u o ho ho2) (by omega) (tm_p x y)) (fun r h => frz_mesh r h) ?_
         refine LJ_val (v := .bool (cfN M9.pts M9.tris (tm x, tm y) u)) (congrArg Value.bool (cfN_at ho).symm) ?_
         refine LJ_y rfl rfl (YJ_pickT rfl rfl) ?_
         refine LJ_nil ?_
         refine QJ_then ?_
         refine CJ_cond rfl (fun h124 => ?_) (fun h124 => ?_)
         ·skip
          refine CJ_seq ?_
          refine CJ_reg ?_
          refine LJ_y rfl rfl (YJ_move rfl) ?_
          refine LJ_y rfl rfl (YJ_move rfl) ?_
          refine LJ_val (v := .int .i64 (u : Nat)) (congrArg (Value.int .i64) hu) ?_
          refine LJ_mapUpdate (f := gI) (g := gI) (k := (u : Int)) (v := (1 : Int)) 0 rfl rfl rfl rfl rfl umap_70 keyI rfl rfl ?_
          show LJ _ _ _ _ _ (_ :: _ :: _ :: _ :: _) _
          refine LJ_nil ?_
          refine QJ_then ?_
          refine CJ_reg ?_
          refine LJ_y rfl rfl (YJ_assign rfl) ?_
          refine LJ_nil ?_
          refine QJ_in_normal ?_
          refine QJ_then ?_
          refine CJ_reg ?_
          refine LJ_y rfl rfl (YJ_bin rfl rfl (iop_add (by omega))) ?_
          refine LJ_y rfl rfl (YJ_move rfl) ?_
          refine LJ_nil ?_
          refine QJ_roundF (F := fun (i : Nat × List Nat × MI × Nat × Bool) => ⟨[(5, .pointer (some ⟨b1, 0, none⟩)), (7, .pointer (some ⟨B9, 0, none⟩)), (8, .pointer (some ⟨b2, 0, none⟩)), (10, .map (some im)), (14, .bool i.2.2.2.2), (15, .int .i64 (n : Nat)), (16, .pointer (some ⟨b4, 0, none⟩)), (89, .slice hm.T M9.tris.length hm.ct), (90, .int .i64 M9.tris.length), (91, .int .i64 (n : Nat)), (97, .agg #[.int .i64 t.n0, .int .i64 t.n1, .int .i64 t.n2]), (98, .int .i64 (i.1 : Nat))], [mapR im gI gI i.2.2.1 i.2.2.2.1], []⟩) (I := fun (i : Nat × List Nat × MI × Nat × Bool) => i.1 ≤ 3 ∧ Tk M9.pts M9.tris (tm x, tm y) q0 i.2.1 ∧ InQ i.2.2.1 i.2.1 ∧ (i.2.2.2.2 = false → clT M9.pts M9.tris (tm x, tm y) i.2.1 n i.1) ∧ q.length ≤ i.2.1.length ∧ (i.2.2.2.2 = true → q.length < i.2.1.length)) (m := fun (i : Nat × List Nat × MI × Nat × Bool) => 3 - i.1) (i := _) ((k + 1, q2 ++ [u], mput (u : Int) 1 L2 c2, mclk (u : Int) L2 c2, true)) (μd := []) ⟨by dsimp only; omega, hT2.push hk3 h106 ht hu h112 ⟨o, ho, ho2⟩ h119 h124, hQ2.put h112 c2, fun q => (by cases q), by dsimp only; rw [List.length_append]; omega, fun _ => by dsimp only; rw [List.length_append, List.length_singleton]; omega⟩ (by dsimp only; omega) (And.intro rfl (And.intro rfl (And.intro rfl (And.intro rfl (And.intro rfl (And.intro rfl (And.intro rfl (And.intro rfl (And.intro rfl (And.intro rfl (And.intro rfl (And.intro rfl (trivial))))))))))))) (permI [] rfl) (fun _ h => nomatch h) (fun _ h => h)
         ·skip
          refine CJ_skip ?_
          refine QJ_in_normal ?_
          refine QJ_then ?_
          refine CJ_reg ?_
          refine LJ_y rfl rfl (YJ_bin rfl rfl (iop_add (by omega))) ?_
          refine LJ_y rfl rfl (YJ_move rfl) ?_
          refine LJ_nil ?_
          refine QJ_roundF (F := fun (i : Nat × List Nat × MI × Nat × Bool) => ⟨[(5, .pointer (some ⟨b1, 0, none⟩)), (7, .pointer (some ⟨B9, 0, none⟩)), (8, .pointer (some ⟨b2, 0, none⟩)), (10, .map (some im)), (14, .bool i.2.2.2.2), (15, .int .i64 (n : Nat)), (16, .pointer (some ⟨b4, 0, none⟩)), (89, .slice hm.T M9.tris.length hm.ct), (90, .int .i64 M9.tris.length), (91, .int .i64 (n : Nat)), (97, .agg #[.int .i64 t.n0, .int .i64 t.n1, .int .i64 t.n2]), (98, .int .i64 (i.1 : Nat))], [mapR im gI gI i.2.2.1 i.2.2.2.1], []⟩) (I := fun (i : Nat × List Nat × MI × Nat × Bool) => i.1 ≤ 3 ∧ Tk M9.pts M9.tris (tm x, tm y) q0 i.2.1 ∧ InQ i.2.2.1 i.2.1 ∧ (i.2.2.2.2 = false → clT M9.pts M9.tris (tm x, tm y) i.2.1 n i.1) ∧ q.length ≤ i.2.1.length ∧ (i.2.2.2.2 = true → q.length < i.2.1.length)) (m := fun (i : Nat × List Nat × MI × Nat × Bool) => 3 - i.1) (i := _) ((k + 1, q2, L2, c2, ag2)) (μd := []) ⟨by dsimp only; omega, hT2, hQ2, fun q => (hcl2 q).skip ht hu (.inr (.inr h124)), hl2, ha2⟩ (by dsimp only; omega) (And.intro rfl (And.intro rfl (And.intro rfl (And.intro rfl (And.intro rfl (And.intro rfl (And.intro rfl (And.intro rfl (And.intro rfl (And.intro rfl (And.intro rfl (And.intro rfl (trivial))))))))))))) (permI [] rfl) (fun _ h => nomatch h) (fun _ h => h)
        ·simp only [Bool.not_eq_false'] at h119
         refine LJ_skip rfl rfl ?_
         refine LJ_skip rfl rfl ?_
         refine LJ_skip rfl rfl ?_
         refine LJ_skip rfl rfl ?_
         refine LJ_y rfl rfl (YJ_pickF rfl rfl) ?_
         refine LJ_nil ?_
         refine QJ_then ?_
         refine CJ_condF rfl ?_
         refine CJ_skip ?_
         refine QJ_in_normal ?_
         refine QJ_then ?_
         refine CJ_reg ?_
         refine LJ_y rfl rfl (YJ_bin rfl rfl (iop_add (by omega))) ?_
         refine LJ_y rfl rfl (YJ_move rfl) ?_
         refine LJ_nil ?_
         refine QJ_roundF (F := fun (i : Nat × List Nat × MI × Nat × Bool) => ⟨[(5, .pointer (some ⟨b1, 0, none⟩)), (7, .pointer (some ⟨B9, 0, none⟩)), (8, .pointer (some ⟨b2, 0, none⟩)), (10, .map (some im)), (14, .bool i.2.2.2.2), (15, .int .i64 (n : Nat)), (16, .pointer (some ⟨b4, 0, none⟩)), (89, .slice hm.T M9.tris.length hm.ct), (90, .int .i64 M9.tris.length), (91, .int .i64 (n : Nat)), (97, .agg #[.int .i64 t.n0, .int .i64 t.n1, .int .i64 t.n2]), (98, .int .i64 (i.1 : Nat))], [mapR im gI gI i.2.2.1 i.2.2.2.1], []⟩) (I := fun (i : Nat × List Nat × MI × Nat × Bool) => i.1 ≤ 3 ∧ Tk M9.pts M9.tris (tm x, tm y) q0 i.2.1 ∧ InQ i.2.2.1 i.2.1 ∧ (i.2.2.2.2 = false → clT M9.pts M9.tris (tm x, tm y) i.2.1 n i.1) ∧ q.length ≤ i.2.1.length ∧ (i.2.2.2.2 = true → q.length < i.2.1.length)) (m := fun (i : Nat × List Nat × MI × Nat × Bool) => 3 - i.1) (i := _) ((k + 1, q2, L2, c2, ag2)) (μd := []) ⟨by dsimp only; omega, hT2, hQ2, fun q => (hcl2 q).skip ht hu (.inr (.inl h119)), hl2, ha2⟩ (by dsimp only; omega) (And.intro rfl (And.intro rfl (And.intro rfl (And.intro rfl (And.intro rfl (And.intro rfl (And.intro rfl (And.intro rfl (And.intro rfl (And.intro rfl (And.intro rfl (And.intro rfl (trivial))))))))))))) (permI [] rfl) (fun _ h => nomatch h) (fun _ h => h)
       ·simp only [decide_eq_true_eq, Bool.not_eq_false'] at h112
        refine LJ_skip rfl rfl ?_
        refine LJ_skip rfl rfl ?_
        refine LJ_skip rfl rfl ?_
        refine LJ_skip rfl rfl ?_
        refine LJ_skip rfl rfl ?_
        refine LJ_y rfl rfl (YJ_pickF rfl rfl) ?_
        refine LJ_y rfl rfl (YJ_move rfl) ?_
        refine LJ_skip rfl rfl ?_
        refine LJ_skip rfl rfl ?_
        refine LJ_skip rfl rfl ?_
        refine LJ_skip rfl rfl ?_
        refine LJ_y rfl rfl (YJ_pickF rfl rfl) ?_
        refine LJ_nil ?_
        refine QJ_then ?_
        refine CJ_condF rfl ?_
        refine CJ_skip ?_
        refine QJ_in_normal ?_
        refine QJ_then ?_
        refine CJ_reg ?_
        refine LJ_y rfl rfl (YJ_bin rfl rfl (iop_add (by omega))) ?_
        refine LJ_y rfl rfl (YJ_move rfl) ?_
        refine LJ_nil ?_
        refine QJ_roundF (F := fun (i : Nat × List Nat × MI × Nat × Bool) => ⟨[(5, .pointer (some ⟨b1, 0, none⟩)), (7, .pointer (some ⟨B9, 0, none⟩)), (8, .pointer (some ⟨b2, 0, none⟩)), (10, .map (some im)), (14, .bool i.2.2.2.2), (15, .int .i64 (n : Nat)), (16, .pointer (some ⟨b4, 0, none⟩)), (89, .slice hm.T M9.tris.length hm.ct), (90, .int .i64 M9.tris.length), (91, .int .i64 (n : Nat)), (97, .agg #[.int .i64 t.n0, .int .i64 t.n1, .int .i64 t.n2]), (98, .int .i64 (i.1 : Nat))], [mapR im gI gI i.2.2.1 i.2.2.2.1], []⟩) (I := fun (i : Nat × List Nat × MI × Nat × Bool) => i.1 ≤ 3 ∧ Tk M9.pts M9.tris (tm x, tm y) q0 i.2.1 ∧ InQ i.2.2.1 i.2.1 ∧ (i.2.2.2.2 = false → clT M9.pts M9.tris (tm x, tm y) i.2.1 n i.1) ∧ q.length ≤ i.2.1.length ∧ (i.2.2.2.2 = true → q.length < i.2.1.length)) (m := fun (i : Nat × List Nat × MI × Nat × Bool) => 3 - i.1) (i := _) ((k + 1, q2, L2, c2, ag2)) (μd := []) ⟨by dsimp only; omega, hT2, hQ2, fun q => (hcl2 q).skip ht hu (.inl h112), hl2, ha2⟩ (by dsimp only; omega) (And.intro rfl (And.intro rfl (And.intro rfl (And.intro rfl (And.intro rfl (And.intro rfl (And.intro rfl (And.intro rfl (And.intro rfl (And.intro rfl (And.intro rfl (And.intro rfl (trivial))))))))))))) (permI [] rfl) (fun _ h => nomatch h) (fun _ h => h)
      ·simp only [decide_eq_false_iff_not] at h106
       refine LJ_skip rfl rfl ?_
       refine LJ_skip rfl rfl ?_
       refine LJ_skip rfl rfl ?_
       refine LJ_skip rfl rfl ?_
       refine LJ_y rfl rfl (YJ_pickF rfl rfl) ?_
       refine LJ_y rfl rfl (YJ_move rfl) ?_
       refine LJ_skip rfl rfl ?_
       refine LJ_skip rfl rfl ?_
       refine LJ_skip rfl rfl ?_
       refine LJ_skip rfl rfl ?_
       refine LJ_skip rfl rfl ?_
       refine LJ_y rfl rfl (YJ_pickF rfl rfl) ?_
       refine LJ_y rfl rfl (YJ_move rfl) ?_
       refine LJ_skip rfl rfl ?_
       refine LJ_skip rfl rfl ?_
       refine LJ_skip rfl rfl ?_
       refine LJ_skip rfl rfl ?_
       refine LJ_y rfl rfl (YJ_pickF rfl rfl) ?_
       refine LJ_nil ?_
       refine QJ_then ?_
       refine CJ_condF rfl ?_
       refine CJ_skip ?_
       refine QJ_in_normal ?_
       refine QJ_then ?_
       refine CJ_reg ?_
       refine LJ_y rfl rfl (YJ_bin rfl rfl (iop_add (by omega))) ?_
       refine LJ_y rfl rfl (YJ_move rfl) ?_
       refine LJ_nil ?_
       refine QJ_roundF (F := fun (i : Nat × List Nat × MI × Nat × Bool) => ⟨[(5, .pointer (some ⟨b1, 0, none⟩)), (7, .pointer (some ⟨B9, 0, none⟩)), (8, .pointer (some ⟨b2, 0, none⟩)), (10, .map (some im)), (14, .bool i.2.2.2.2), (15, .int .i64 (n : Nat)), (16, .pointer (some ⟨b4, 0, none⟩)), (89, .slice hm.T M9.tris.length hm.ct), (90, .int .i64 M9.tris.length), (91, .int .i64 (n : Nat)), (97, .agg #[.int .i64 t.n0, .int .i64 t.n1, .int .i64 t.n2]), (98, .int .i64 (i.1 : Nat))], [mapR im gI gI i.2.2.1 i.2.2.2.1], []⟩) (I := fun (i : Nat × List Nat × MI × Nat × Bool) => i.1 ≤ 3 ∧ Tk M9.pts M9.tris (tm x, tm y) q0 i.2.1 ∧ InQ i.2.2.1 i.2.1 ∧ (i.2.2.2.2 = false → clT M9.pts M9.tris (tm x, tm y) i.2.1 n i.1) ∧ q.length ≤ i.2.1.length ∧ (i.2.2.2.2 = true → q.length < i.2.1.length)) (m := fun (i : Nat × List Nat × MI × Nat × Bool) => 3 - i.1) (i := _) ((k + 1, q2, L2, c2, ag2)) (μd := []) ⟨by dsimp only; omega, hT2, hQ2, fun q => (hcl2 q).skipN h106, hl2, ha2⟩ (by dsimp only; omega) (And.intro rfl (And.intro rfl (And.intro rfl (And.intro rfl (And.intro rfl (And.intro rfl (And.intro rfl (And.intro rfl (And.intro rfl (And.intro rfl (And.intro rfl (And.intro rfl (trivial))))))))))))) (permI [] rfl) (fun _ h => nomatch h) (fun _ h => h)
     ·simp only [decide_eq_false_iff_not] at h99
      have hk3 : k = 3 := by omega
      subst hk3
      refine CJ_exit ?_
      refine QJ_then_exit ?_
      refine QJ_then_exit ?_
      refine QJ_in_exit ?_
      refine QJ_in_normal ?_
      refine QJ_then ?_
      refine CJ_reg ?_
      refine LJ_y rfl rfl (YJ_bin rfl rfl (iop_add (by omega))) ?_
      refine LJ_y rfl rfl (YJ_move rfl) ?_
      refine LJ_nil ?_
      refine QJ_roundF (F := fun (i : Nat × List Nat × MI × Nat × Bool) => ⟨[(5, .pointer (some ⟨b1, 0, none⟩)), (7, .pointer (some ⟨B9, 0, none⟩)), (8, .pointer (some ⟨b2, 0, none⟩)), (10, .map (some im)), (14, .bool i.2.2.2.2), (89, .slice hm.T M9.tris.length hm.ct), (90, .int .i64 M9.tris.length), (91, .int .i64 (i.1 : Nat))], [mapR im gI gI i.2.2.1 i.2.2.2.1], []⟩) (I := fun (i : Nat × List Nat × MI × Nat × Bool) => i.1 ≤ M9.tris.length ∧ Tk M9.pts M9.tris (tm x, tm y) q0 i.2.1 ∧ InQ i.2.2.1 i.2.1 ∧ (i.2.2.2.2 = false → clT M9.pts M9.tris (tm x, tm y) i.2.1 i.1 0) ∧ q.length ≤ i.2.1.length ∧ (i.2.2.2.2 = true → q.length < i.2.1.length)) (m := fun (i : Nat × List Nat × MI × Nat × Bool) => M9.tris.length - i.1) (i := (n, q1, L1, c1, ag1)) ((n + 1, q2, L2, c2, ag2)) (μd := [_]) ⟨by dsimp only; omega, hT2, hQ2, fun q => (hcl2 q).next, hl2, ha2⟩ (by dsimp only; omega) (And.intro rfl (And.intro rfl (And.intro rfl (And.intro rfl (And.intro rfl (And.intro rfl (And.intro rfl (And.intro rfl (trivial))))))))) (permI [0, 1, 1] rfl) (fun _ h => nomatch h) (fun _ h => h)
    ·simp only [decide_eq_false_iff_not] at h92
     have hn9 : n = M9.tris.length := by omega
     subst hn9
     refine CJ_exit ?_
     refine QJ_then_exit ?_
     refine QJ_then_exit ?_
     refine QJ_in_exit ?_
     refine QJ_in_normal ?_
     refine QJ_roundF (F := fun (i : List Nat × MI × Nat × Bool) => ⟨[(5, .pointer (some ⟨b1, 0, none⟩)), (7, .pointer (some ⟨B9, 0, none⟩)), (8, .pointer (some ⟨b2, 0, none⟩)), (10, .map (some im)), (14, .bool i.2.2.2)], [mapR im gI gI i.2.1 i.2.2.1], []⟩) (I := fun (i : List Nat × MI × Nat × Bool) => Tk M9.pts M9.tris (tm x, tm y) q0 i.1 ∧ InQ i.2.1 i.1 ∧ (i.2.2.2 = false → clT M9.pts M9.tris (tm x, tm y) i.1 M9.tris.length 0)) (m := fun (i : List Nat × MI × Nat × Bool) => 2 * (M9.tris.length - i.1.length) + (if i.2.2.2 then 1 else 0)) (i := _) ((q1, L1, c1, ag1)) (μd := []) ⟨hT1, hQ1, hcl1⟩ (by have := hT1.len; cases ag1 with | false => simp; omega | true => have := ha1 rfl; simp; omega) (And.intro rfl (And.intro rfl (And.intro rfl (And.intro rfl (And.intro rfl (trivial)))))) (permI [] rfl) (fun _ h => nomatch h) (fun _ h => h)
   ·skip
    refine CJ_exit ?_
    refine QJ_then_exit ?_
    refine QJ_then_exit ?_
    refine QJ_in_exit ?_
    refine QJ_then ?_
    refine CJ_seq ?_
    refine CJ_reg ?_
    refine LJ_y rfl rfl (YJ_move rfl) ?_
    refine LJ_y rfl rfl (YJ_loadN (vs := [_, _]) rfl tyi_23 m2 rfl rfl) ?_
    refine LJ_y rfl rfl (YJ_loadN (vs := [_, _, _, _]) rfl tyi_42 m1 rfl rfl) ?_
    refine LJ_callX rfl rfl rfl rfl rfl (dig_c (h := hm) (pts := M9.pts) (tris := M9.tris) (p1 := tm x) (p2 := tm y) (kd := kd) (pa := pa) (pb := pb) (n0 := n0) (n1 := n1) (q0 := q0) hP (tm_p x y) (by omega) (by omega) hmT hMs hI.ht0 hI.hn1 hI.hq0 hI.lv hI.nd) (fun r h => frz_mesh r h) ?_
    rintro ⟨ts, A1, cd1, A2, cd2⟩ hD
    try dsimp only at hD
    dsimp only [List.nil_append]
    obtain ⟨hin, hlq⟩ := hT.done (hcl h85) hD
    have hql9 := hT.len
    refine LJ_alloc (cs := #[_, _, _]) rfl rfl zer_85 rfl ?_
    intro b5
    refine LJ_store (cs' := #[_, _, _]) (μ' := [_, _, _, _]) 0 rfl rfl rfl rfl tyi_85 rfl (Nat.le_of_ble_eq_true rfl) rfl rfl rfl ?_
    refine LJ_nil ?_
    refine QJ_then ?_
    refine CJ_seq ?_
    refine CJ_seq ?_
    refine CJ_reg ?_
    refine LJ_y rfl rfl (YJ_fieldOwn rfl fld_85_0 rfl) ?_
    refine LJ_y rfl rfl (YJ_loadL rfl tyi_55 m0 rfl) ?_
    refine LJ_y rfl rfl (YJ_len rfl ulen_55 rfl) ?_
    refine LJ_y rfl rfl (YJ_move rfl) ?_
    refine LJ_nil ?_
    refine QJ_then ?_
    refine CJ_block ?_
    refine CJ_loopF (F := fun (i : Nat) => ⟨[(10, .map (some im)), (19, .pointer (some ⟨b5, 0, none⟩)), (134, .slice A1 ts.length cd1), (135, .int .i64 ts.length), (136, .int .i64 (i : Nat))], [], []⟩) (I := fun (i : Nat) => i ≤ ts.length) (m := fun (i : Nat) => ts.length - i) 0 (μr := [_, _, _, _]) (Nat.zero_le _) (And.intro rfl (And.intro rfl (And.intro rfl (And.intro rfl (And.intro rfl (trivial)))))) (permI [] rfl) (fun _ h => nomatch h) ?_
    rintro j hj
    try dsimp only at hj
    show CJ _ _ _ [(10, .map (some im)), (19, .pointer (some ⟨b5, 0, none⟩)), (134, .slice A1 ts.length cd1), (135, .int .i64 ts.length), (136, .int .i64 (j : Nat))] (_ :: _ :: _ :: _ :: _) _
    refine CJ_seq ?_
    refine CJ_reg ?_
    refine LJ_y rfl rfl (YJ_bin rfl rfl rfl) ?_
    refine LJ_nil ?_
    refine QJ_then ?_
    refine CJ_seq ?_
    refine CJ_cond rfl (fun h137 => ?_) (fun h137 => ?_)
    ·simp only [decide_eq_true_eq] at h137
     obtain ⟨x9, hx⟩ : ∃ x, ts[j]? = some x := ⟨_, List.getElem?_eq_getElem (by omega)⟩
     have hxq := hin x9 (List.mem_of_getElem? hx)
     refine CJ_skip ?_
     refine QJ_then ?_
     refine CJ_seq ?_
     refine CJ_block ?_
     refine CJ_seq ?_
     refine CJ_reg ?_
     refine LJ_y rfl rfl (YJ_move rfl) ?_
     refine LJ_y rfl rfl (YJ_ixFact (n' := ts.length) rfl rfl elt_55 m0 (by decide) (by omega) (by omega) (by omega)) ?_
     refine LJ_y rfl rfl (YJ_loadFactP (A := A1) (j := j) rfl (congrArg _ (by omega)) tyi_3 m0 (Nv_at hx)) ?_
     refine LJ_y rfl rfl (YJ_assign rfl) ?_
     refine LJ_y rfl rfl (YJ_assign rfl) ?_
     refine LJ_nil ?_
     refine QJ_then ?_
     refine CJ_seq ?_
     refine CJ_reg ?_
     refine LJ_y rfl rfl (YJ_move rfl) ?_
     refine LJ_y rfl rfl (YJ_move rfl) ?_
     refine LJ_y rfl rfl (YJ_lookup (f := gI) (g := gI) (k := (x9 : Int)) rfl rfl umap_70 keyI zer_3 (MapAt_own (l := L) (c := c) m1) rfl) ?_
     refine LJ_val (v := .int .i64 1) ((hQ.val x9).trans (by rw [if_pos hxq])) ?_
     refine LJ_y rfl rfl (YJ_bin rfl rfl rfl) ?_
     refine LJ_val (v := .bool false) (rfl) ?_
     refine LJ_y rfl rfl (YJ_move rfl) ?_
     refine LJ_bool (c := false) rfl ?_
     refine LJ_y rfl rfl (YJ_move rfl) ?_
     refine LJ_y rfl rfl (YJ_bin rfl rfl rfl) ?_
     refine LJ_y rfl rfl (YJ_move rfl) ?_
     refine LJ_boolC (fun h148 => ?_) (fun h148 => ?_)
     ·simp only [decide_eq_true_eq] at h148
      obtain ⟨y9, hy9⟩ : ∃ y, ts[j - 1]? = some y := ⟨_, List.getElem?_eq_getElem (by omega)⟩
      have hyx : y9 < x9 := lt_at hD.so hy9 hx (by omega)
      refine LJ_y rfl rfl (YJ_fieldOwn rfl fld_85_0 rfl) ?_
      refine LJ_y rfl rfl (YJ_loadL rfl tyi_55 m0 rfl) ?_
      refine LJ_y rfl rfl (YJ_move rfl) ?_
      refine LJ_y rfl rfl (YJ_bin rfl rfl (iop_sub (by omega))) ?_
      refine LJ_y rfl rfl (YJ_ixFact (n' := ts.length) rfl rfl elt_55 m0 (by decide) (by omega) (by omega) (by omega)) ?_
      refine LJ_y rfl rfl (YJ_loadFactP (A := A1) (j := j - 1) rfl (congrArg _ (by omega)) tyi_3 m0 (Nv_at hy9)) ?_
      refine LJ_y rfl rfl (YJ_move rfl) ?_
      refine LJ_y rfl rfl (YJ_bin rfl rfl rfl) ?_
      refine LJ_val (v := .bool false) (congrArg Value.bool (decide_eq_false (by omega))) ?_
      refine LJ_y rfl rfl (YJ_pickT rfl rfl) ?_
      refine LJ_y rfl rfl (YJ_pickF rfl rfl) ?_
      refine LJ_nil ?_
      refine QJ_then ?_
      refine CJ_condF rfl ?_
      refine CJ_skip ?_
      refine QJ_in_normal ?_
      refine QJ_then ?_
      refine CJ_reg ?_
      refine LJ_y rfl rfl (YJ_bin rfl rfl (iop_add (by omega))) ?_
      refine LJ_y rfl rfl (YJ_move rfl) ?_
      refine LJ_nil ?_
      refine QJ_roundF (F := fun (i : Nat) => ⟨[(10, .map (some im)), (19, .pointer (some ⟨b5, 0, none⟩)), (134, .slice A1 ts.length cd1), (135, .int .i64 ts.length), (136, .int .i64 (i : Nat))], [], []⟩) (I := fun (i : Nat) => i ≤ ts.length) (m := fun (i : Nat) => ts.length - i) (i := j) (j + 1) (μd := []) (by omega) (by omega) (And.intro rfl (And.intro rfl (And.intro rfl (And.intro rfl (And.intro rfl (trivial)))))) (permI [] rfl) (fun _ h => nomatch h) (fun _ h => h)
     ·simp only [decide_eq_false_iff_not] at h148
      refine LJ_skip rfl rfl ?_
      refine LJ_skip rfl rfl ?_
      refine LJ_skip rfl rfl ?_
      refine LJ_skip rfl rfl ?_
      refine LJ_skip rfl rfl ?_
      refine LJ_skip rfl rfl ?_
      refine LJ_skip rfl rfl ?_
      refine LJ_skip rfl rfl ?_
      refine LJ_y rfl rfl (YJ_pickF rfl rfl) ?_
      refine LJ_y rfl rfl (YJ_pickF rfl rfl) ?_
      refine LJ_nil ?_
      refine QJ_then ?_
      refine CJ_condF rfl ?_
      refine CJ_skip ?_
      refine QJ_in_normal ?_
      refine QJ_then ?_
      refine CJ_reg ?_
      refine LJ_y rfl rfl (YJ_bin rfl rfl (iop_add (by omega))) ?_
      refine LJ_y rfl rfl (YJ_move rfl) ?_
      refine LJ_nil ?_
      refine QJ_roundF (F := fun (i : Nat) => ⟨[(10, .map (some im)), (19, .pointer (some ⟨b5, 0, none⟩)), (134, .slice A1 ts.length cd1), (135, .int .i64 ts.length), (136, .int .i64 (i : Nat))], [], []⟩) (I := fun (i : Nat) => i ≤ ts.length) (m := fun (i : Nat) => ts.length - i) (i := j) (j + 1) (μd := []) (by omega) (by omega) (And.intro rfl (And.intro rfl (And.intro rfl (And.intro rfl (And.intro rfl (trivial)))))) (permI [] rfl) (fun _ h => nomatch h) (fun _ h => h)
    ·simp only [decide_eq_false_iff_not] at h137
     refine CJ_exit ?_
     refine QJ_then_exit ?_
     refine QJ_then_exit ?_
     refine QJ_in_exit ?_
     refine QJ_then ?_
     refine CJ_seq ?_
     refine CJ_reg ?_
     refine LJ_y rfl rfl (YJ_fieldOwn rfl fld_85_0 rfl) ?_
     refine LJ_y rfl rfl (YJ_loadL rfl tyi_55 m0 rfl) ?_
     refine LJ_y rfl rfl (YJ_len rfl ulen_55 rfl) ?_
     refine LJ_y rfl rfl (YJ_move rfl) ?_
     refine LJ_y rfl rfl (YJ_lenMap (f := gI) (g := gI) rfl umap_70 (MapAt_own (l := L) (c := c) m1) rfl) ?_
     refine LJ_y rfl rfl (YJ_bin rfl rfl rfl) ?_
     refine LJ_y rfl rfl (YJ_assign rfl) ?_
     refine LJ_nil ?_
     refine QJ_then ?_
     refine CJ_ret ?_
     refine QJ_fin (.inl rfl) (μ' := []) (μr := _) (φ' := []) (res_tmp rfl rfl) (List.Perm.refl _) (fun _ h => nomatch h) ?_
     exact ⟨congrArg Value.bool (decide_eq_true (by rw [hQ.len, hlq])), rfl, rfl⟩
end Go.Proofs.Ytbanlhlggkdanaa
namespace Go.Proofs.Ytbanlhlggkdanaa
open Go.ChangeShapes Go.WideShapes Go.ChangeAt Go.RowKit Go.Joins
section
variable {H : Type} {enc : TypeId × Value → H} {P : Program}
theorem post_of_below' {f : Func} {s : ChangeSpec} {apart fresh handsOn again : Bool} {W W' : World} {args : Array Value} {v : Value} {ds gs : List (DataW H)} {before pa pv : List MemPlace}
  (hW : DataW.Whole enc P f.params.toList s.vars apart W args.toList ds gs before)
  (hres : ∀ (b : Nat) (sp : Nat → Bool) (hd : Bool), DataW.TrodAll enc P W' b sp hd f.resultTypes.toList (v.resultList f.resultTypes.size) (s.fn H (ds ++ gs)).results [])
  (hargs : ∀ sp : Nat → Bool, (∀ p ∈ before, sp p.block = true) → DataW.TrodAll enc P W' 0 sp true f.params.toList args.toList (s.fn H (ds ++ gs)).args pa)
  (hvars : ∀ sp : Nat → Bool, (∀ p ∈ before, sp p.block = true) → DataW.TrodVars enc P W' sp s.vars (s.fn H (ds ++ gs)).vars pv)
  (hps : before = pa ++ pv) (hb : Below W.heap.size W W')
  (hok : ∀ (j : Nat) (t : TypeId) (r : Value), f.resultTypes[j]? = some t → (v.resultList f.resultTypes.size)[j]? = some r → Value.okWide P W' .any 0 t r) :
  s.post enc P f apart fresh handsOn again W args v W' := by
 have hlt : ∀ p ∈ before, p.block < W.heap.size := fun p hp => hW.lt p hp
 have hold : ∀ p ∈ before, (fun b => decide (b < W.heap.size)) p.block = true := fun p hp => by simpa using hlt p hp
 refine ⟨ds, gs, before, [], pa, pv, hW, hres _ _ _, hargs _ hold, hvars _ hold, World.keptBut_mono (fun p hp => ⟨hp, ?_⟩) (hb.frame (· ∈ before)), fun _ => ?_⟩
 ·rw [hps, List.mem_append] at hp
  exact Or.inr hp
 ·obtain ⟨_, _, _, _, _, hz, hn⟩ := hW
  refine ⟨hok, _, _, ([] ++ pa) ++ pv, ⟨[] ++ pa, pv, trodAll_append (hargs _ (fun _ _ => rfl)) (hres _ _ _), hvars _ (fun _ _ => rfl), rfl, ?_, ?_⟩, ?_⟩
  ·intro b off hp
   have hin : MemPlace.cell b off ∈ before := by rw [hps]; simpa using hp
   rw [hb.frozen (hlt _ hin)]
   exact hz b off hin
  ·intro ha
   have := hn ha
   rw [hps] at this
   simpa using this
  ·intro p hp _
   rw [hps]
   simpa using hp
end
theorem Tri.law {P : Program} {f : FuncId} {args : List Value} {v : Value} (h : Tri P f args [] [] (Ret0 v)) (w : World) :
  Calls P f args.toArray w fun e w' => e = .returned v ∧ Below w.heap.size w w' := by
 refine (h.2 w (fun _ => False) (fun _ => False) (fun _ h => h) (fun r hr => nomatch hr) (fun _ h _ => h) (fun _ h => h.elim)).mono ?_
 rintro e w' ⟨v', μ', φ', he, ⟨rfl, rfl, rfl⟩, hk, -⟩
 exact ⟨he, hk.below (fun _ h => h)⟩
theorem Try.own : ownKnob Try.prog.godebug = none := by kernel_rfl
theorem cellsP : Try.prog.cellsOf 23 = 2 := by kernel_rfl
section
variable {H : Type} {enc : TypeId × Value → H} {w : World} {base b0 : Nat} {spare : Nat → Bool} {held : Bool} {r : Reach} {v : Value} {d : DataW H} {p : List MemPlace}
set_option maxRecDepth 100000 in
theorem open_pt (hv : Value.okWide Try.prog w r b0 23 v) (h : DataW.Trod enc Try.prog w base spare held 23 v d p) :
  ∃ x y : Int, v = .agg #[.int .i64 x, .int .i64 y] ∧ d = .agg [.lit (.int .i64 x), .lit (.int .i64 y)] ∧ p = [] ∧ (Lit.int .i64 x).wf = true ∧ (Lit.int .i64 y).wf = true := by
 obtain ⟨c0, c1, y0, y1, m, rfl, rfl, rfl, hy0, hy1⟩ := open_agg2 Try.underlying23 (by kernel_rfl) cellsP hv h
 obtain ⟨a, e0, rfl, wa⟩ := DataW.trod_int Try.underlying3 hy0
 obtain ⟨b, e1, rfl, wb⟩ := DataW.trod_int Try.underlying3 hy1
 simp at e0 e1
 subst e0 e1
 exact ⟨a, b, rfl, rfl, rfl, wa, wb⟩
set_option maxRecDepth 100000 in
theorem shut_pt {x y : Int} (wa : (Lit.int .i64 x).wf = true) (wb : (Lit.int .i64 y).wf = true) : DataW.Trod enc Try.prog w base spare held 23 (.agg #[.int .i64 x, .int .i64 y]) (.agg [.lit (.int .i64 x), .lit (.int .i64 y)]) [] :=
 shut_agg2 (y0 := (.lit (.int .i64 x), [])) (y1 := (.lit (.int .i64 y), [])) Try.underlying23 (by kernel_rfl) cellsP ⟨1, by simp [DataW.trod, Try.underlying3, wa]⟩ ⟨1, by simp [DataW.trod, Try.underlying3, wb]⟩
end
section
variable {H : Type} {enc : TypeId × Value → H} {w : World} {base b0 : Nat} {spare : Nat → Bool} {held : Bool} {r : Reach} {v : Value} {d : DataW H} {p : List MemPlace}
end
end Go.Proofs.Ytbanlhlggkdanaa
namespace Go.Proofs.Ytbanlhlggkdanaa
open Go.ChangeShapes Go.WideShapes Go.ChangeAt Go.RowKit Go.Joins
theorem u32_b {n : Int} (h : (Lit.int .u32 n).wf = true) : 0 ≤ n ∧ n < 4294967296 := by
 simp [Lit.wf, IntKind.min, IntKind.max] at h
 simp [IntKind.signed, IntKind.bits] at h
 omega
section
variable {H : Type} {enc : TypeId × Value → H} {w : World} {base b0 : Nat} {spare : Nat → Bool} {held : Bool} {r : Reach} {v : Value} {d : DataW H} {p : List MemPlace}
end
end Go.Proofs.Ytbanlhlggkdanaa
