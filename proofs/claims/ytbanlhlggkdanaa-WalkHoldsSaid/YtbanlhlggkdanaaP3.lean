/- The walks of pred.Circle, and of the head of the statements about pred. -/
import Derived.Test.YtbanlhlggkdanaaP2
set_option linter.unusedSimpArgs false
set_option linter.unusedVariables false
namespace Go.Proofs.Ytbanlhlggkdanaa
open Go.RowKit

theorem ent_69 : Enter Try.prog 69 = true := by kernel_rfl
theorem zer_3 : zer Try.prog 3 = some (.int .i64 0) := by kernel_rfl


/-- what pred.Circle tells the sign of, by the points -/
def Inc (a1 a2 e1 e2 c1 c2 d1 d2 : Int) : Int := inc (a1 - d1) (a2 - d2) (e1 - d1) (e2 - d2) (c1 - d1) (c2 - d2)
theorem sq_d {x y : Int} (hx : T62 x) (hy : T62 y) : dl (x * x + y * y) ≤ 5 := Nat.le_trans (dl_add (dl_r128 (mul_r62 hx hx)) (dl_r128 (mul_r62 hy hy))) (by decide)
theorem term_d {x y a e c d : Int} (hx : T62 x) (hy : T62 y) (ha : T62 a) (he : T62 e) (hc : T62 c) (hd : T62 d) : dl ((x * x + y * y) * det a e c d) ≤ 1000 := Nat.le_trans (dl_mul (sq_d hx hy) (dl_r128 (det_r ha he hc hd))) (by decide)
theorem psum3 {x1 x2 d1 y1 y2 d2 z1 z2 d3 : Int} {A B C : Option Addr} {k l m : Nat} : psum [((x1 + x2) * d1, A, k), ((y1 + y2) * d2, B, l), ((z1 + z2) * d3, C, m)] = d1 * (x1 + x2) + d2 * (y1 + y2) + d3 * (z1 + z2) := by
  simp only [psum]
  rw [Int.mul_comm d1, Int.mul_comm d2, Int.mul_comm d3]; omega


set_option maxRecDepth 100000 in
set_option maxHeartbeats 8000000 in
theorem circle_c {a1 a2 e1 e2 c1 c2 d1 d2 : Int} (ha : P2 a1 a2) (he : P2 e1 e2) (hc : P2 c1 c2) (hd : P2 d1 d2) : Tri Try.prog 69 [ptv a1 a2, ptv e1 e2, ptv c1 c2, ptv d1 d2] [] [] (Ret0 (.int .i64 (sgn (Inc a1 a2 e1 e2 c1 c2 d1 d2)))) := by
  refine Tri_of (N := 98) Try.func69 rfl ent_69 rfl rfl ?_
  intro w0 S0 T0
  show CJ _ _ _ [(0, _), (1, _), (2, _), (3, _)] _ _
  have ta1 := ha.1.d hd.1
  have ta2 := ha.2.d hd.2
  have te1 := he.1.d hd.1
  have te2 := he.2.d hd.2
  have tc1 := hc.1.d hd.1
  have tc2 := hc.2.d hd.2
  refine CJ_seq ?_
  refine CJ_reg ?_
  refine LJ_box (cs := #[_, _]) rfl rfl rfl rfl ?_
  intro b1
  refine LJ_box (cs := #[_, _]) rfl rfl rfl rfl ?_
  intro b2
  refine LJ_box (cs := #[_, _]) rfl rfl rfl rfl ?_
  intro b3
  refine LJ_box (cs := #[_, _]) rfl rfl rfl rfl ?_
  intro b4
  refine LJ_y rfl rfl (YJ_assign rfl) ?_
  refine LJ_nil ?_
  refine QJ_then ?_
  refine CJ_seq ?_
  refine CJ_regD mix (by kernel_rfl) (fun _ _ _ _ _ h => h) _ _ (fun _ h => h) (fun _ h => h) ?_
  first | refine AJ_y 0 rfl (by kernel_rfl) (by kernel_rfl) rfl rfl (YJ_fieldOwn rfl fld_23_0 rfl) ?_ | refine AJ_y 0 rfl (by kernel_rfl) (by kernel_rfl) rfl rfl (YJ_fieldAddr rfl fld_23_0) ?_
  first | refine AJ_y 1 rfl (by kernel_rfl) (by kernel_rfl) rfl rfl (YJ_loadL rfl tyi_3 (by repeat first | exact .head _ | apply List.Mem.tail) rfl) ?_ | refine AJ_y 1 rfl (by kernel_rfl) (by kernel_rfl) rfl rfl (YJ_loadFact rfl tyi_3 (by repeat first | exact .head _ | apply List.Mem.tail) rfl) ?_
  first | refine AJ_y 2 rfl (by kernel_rfl) (by kernel_rfl) rfl rfl (YJ_fieldOwn rfl fld_23_0 rfl) ?_ | refine AJ_y 2 rfl (by kernel_rfl) (by kernel_rfl) rfl rfl (YJ_fieldAddr rfl fld_23_0) ?_
  first | refine AJ_y 3 rfl (by kernel_rfl) (by kernel_rfl) rfl rfl (YJ_loadL rfl tyi_3 (by repeat first | exact .head _ | apply List.Mem.tail) rfl) ?_ | refine AJ_y 3 rfl (by kernel_rfl) (by kernel_rfl) rfl rfl (YJ_loadFact rfl tyi_3 (by repeat first | exact .head _ | apply List.Mem.tail) rfl) ?_
  refine AJ_y 4 rfl (by kernel_rfl) (by kernel_rfl) rfl rfl (YJ_bin rfl rfl (iop_sub (ha.1.i hd.1))) ?_
  first | refine AJ_y 5 rfl (by kernel_rfl) (by kernel_rfl) rfl rfl (YJ_fieldOwn rfl fld_23_1 rfl) ?_ | refine AJ_y 5 rfl (by kernel_rfl) (by kernel_rfl) rfl rfl (YJ_fieldAddr rfl fld_23_1) ?_
  first | refine AJ_y 6 rfl (by kernel_rfl) (by kernel_rfl) rfl rfl (YJ_loadL rfl tyi_3 (by repeat first | exact .head _ | apply List.Mem.tail) rfl) ?_ | refine AJ_y 6 rfl (by kernel_rfl) (by kernel_rfl) rfl rfl (YJ_loadFact rfl tyi_3 (by repeat first | exact .head _ | apply List.Mem.tail) rfl) ?_
  first | refine AJ_y 7 rfl (by kernel_rfl) (by kernel_rfl) rfl rfl (YJ_fieldOwn rfl fld_23_1 rfl) ?_ | refine AJ_y 7 rfl (by kernel_rfl) (by kernel_rfl) rfl rfl (YJ_fieldAddr rfl fld_23_1) ?_
  first | refine AJ_y 8 rfl (by kernel_rfl) (by kernel_rfl) rfl rfl (YJ_loadL rfl tyi_3 (by repeat first | exact .head _ | apply List.Mem.tail) rfl) ?_ | refine AJ_y 8 rfl (by kernel_rfl) (by kernel_rfl) rfl rfl (YJ_loadFact rfl tyi_3 (by repeat first | exact .head _ | apply List.Mem.tail) rfl) ?_
  refine AJ_y 9 rfl (by kernel_rfl) (by kernel_rfl) rfl rfl (YJ_bin rfl rfl (iop_sub (ha.2.i hd.2))) ?_
  first | refine AJ_y 10 rfl (by kernel_rfl) (by kernel_rfl) rfl rfl (YJ_fieldOwn rfl fld_23_0 rfl) ?_ | refine AJ_y 10 rfl (by kernel_rfl) (by kernel_rfl) rfl rfl (YJ_fieldAddr rfl fld_23_0) ?_
  first | refine AJ_y 11 rfl (by kernel_rfl) (by kernel_rfl) rfl rfl (YJ_loadL rfl tyi_3 (by repeat first | exact .head _ | apply List.Mem.tail) rfl) ?_ | refine AJ_y 11 rfl (by kernel_rfl) (by kernel_rfl) rfl rfl (YJ_loadFact rfl tyi_3 (by repeat first | exact .head _ | apply List.Mem.tail) rfl) ?_
  first | refine AJ_y 12 rfl (by kernel_rfl) (by kernel_rfl) rfl rfl (YJ_fieldOwn rfl fld_23_0 rfl) ?_ | refine AJ_y 12 rfl (by kernel_rfl) (by kernel_rfl) rfl rfl (YJ_fieldAddr rfl fld_23_0) ?_
  first | refine AJ_y 13 rfl (by kernel_rfl) (by kernel_rfl) rfl rfl (YJ_loadL rfl tyi_3 (by repeat first | exact .head _ | apply List.Mem.tail) rfl) ?_ | refine AJ_y 13 rfl (by kernel_rfl) (by kernel_rfl) rfl rfl (YJ_loadFact rfl tyi_3 (by repeat first | exact .head _ | apply List.Mem.tail) rfl) ?_
  refine AJ_y 14 rfl (by kernel_rfl) (by kernel_rfl) rfl rfl (YJ_bin rfl rfl (iop_sub (he.1.i hd.1))) ?_
  first | refine AJ_y 15 rfl (by kernel_rfl) (by kernel_rfl) rfl rfl (YJ_fieldOwn rfl fld_23_1 rfl) ?_ | refine AJ_y 15 rfl (by kernel_rfl) (by kernel_rfl) rfl rfl (YJ_fieldAddr rfl fld_23_1) ?_
  first | refine AJ_y 16 rfl (by kernel_rfl) (by kernel_rfl) rfl rfl (YJ_loadL rfl tyi_3 (by repeat first | exact .head _ | apply List.Mem.tail) rfl) ?_ | refine AJ_y 16 rfl (by kernel_rfl) (by kernel_rfl) rfl rfl (YJ_loadFact rfl tyi_3 (by repeat first | exact .head _ | apply List.Mem.tail) rfl) ?_
  first | refine AJ_y 17 rfl (by kernel_rfl) (by kernel_rfl) rfl rfl (YJ_fieldOwn rfl fld_23_1 rfl) ?_ | refine AJ_y 17 rfl (by kernel_rfl) (by kernel_rfl) rfl rfl (YJ_fieldAddr rfl fld_23_1) ?_
  first | refine AJ_y 18 rfl (by kernel_rfl) (by kernel_rfl) rfl rfl (YJ_loadL rfl tyi_3 (by repeat first | exact .head _ | apply List.Mem.tail) rfl) ?_ | refine AJ_y 18 rfl (by kernel_rfl) (by kernel_rfl) rfl rfl (YJ_loadFact rfl tyi_3 (by repeat first | exact .head _ | apply List.Mem.tail) rfl) ?_
  refine AJ_y 19 rfl (by kernel_rfl) (by kernel_rfl) rfl rfl (YJ_bin rfl rfl (iop_sub (he.2.i hd.2))) ?_
  first | refine AJ_y 20 rfl (by kernel_rfl) (by kernel_rfl) rfl rfl (YJ_fieldOwn rfl fld_23_0 rfl) ?_ | refine AJ_y 20 rfl (by kernel_rfl) (by kernel_rfl) rfl rfl (YJ_fieldAddr rfl fld_23_0) ?_
  first | refine AJ_y 21 rfl (by kernel_rfl) (by kernel_rfl) rfl rfl (YJ_loadL rfl tyi_3 (by repeat first | exact .head _ | apply List.Mem.tail) rfl) ?_ | refine AJ_y 21 rfl (by kernel_rfl) (by kernel_rfl) rfl rfl (YJ_loadFact rfl tyi_3 (by repeat first | exact .head _ | apply List.Mem.tail) rfl) ?_
  first | refine AJ_y 22 rfl (by kernel_rfl) (by kernel_rfl) rfl rfl (YJ_fieldOwn rfl fld_23_0 rfl) ?_ | refine AJ_y 22 rfl (by kernel_rfl) (by kernel_rfl) rfl rfl (YJ_fieldAddr rfl fld_23_0) ?_
  first | refine AJ_y 23 rfl (by kernel_rfl) (by kernel_rfl) rfl rfl (YJ_loadL rfl tyi_3 (by repeat first | exact .head _ | apply List.Mem.tail) rfl) ?_ | refine AJ_y 23 rfl (by kernel_rfl) (by kernel_rfl) rfl rfl (YJ_loadFact rfl tyi_3 (by repeat first | exact .head _ | apply List.Mem.tail) rfl) ?_
  refine AJ_y 24 rfl (by kernel_rfl) (by kernel_rfl) rfl rfl (YJ_bin rfl rfl (iop_sub (hc.1.i hd.1))) ?_
  first | refine AJ_y 25 rfl (by kernel_rfl) (by kernel_rfl) rfl rfl (YJ_fieldOwn rfl fld_23_1 rfl) ?_ | refine AJ_y 25 rfl (by kernel_rfl) (by kernel_rfl) rfl rfl (YJ_fieldAddr rfl fld_23_1) ?_
  first | refine AJ_y 26 rfl (by kernel_rfl) (by kernel_rfl) rfl rfl (YJ_loadL rfl tyi_3 (by repeat first | exact .head _ | apply List.Mem.tail) rfl) ?_ | refine AJ_y 26 rfl (by kernel_rfl) (by kernel_rfl) rfl rfl (YJ_loadFact rfl tyi_3 (by repeat first | exact .head _ | apply List.Mem.tail) rfl) ?_
  first | refine AJ_y 27 rfl (by kernel_rfl) (by kernel_rfl) rfl rfl (YJ_fieldOwn rfl fld_23_1 rfl) ?_ | refine AJ_y 27 rfl (by kernel_rfl) (by kernel_rfl) rfl rfl (YJ_fieldAddr rfl fld_23_1) ?_
  first | refine AJ_y 28 rfl (by kernel_rfl) (by kernel_rfl) rfl rfl (YJ_loadL rfl tyi_3 (by repeat first | exact .head _ | apply List.Mem.tail) rfl) ?_ | refine AJ_y 28 rfl (by kernel_rfl) (by kernel_rfl) rfl rfl (YJ_loadFact rfl tyi_3 (by repeat first | exact .head _ | apply List.Mem.tail) rfl) ?_
  refine AJ_y 29 rfl (by kernel_rfl) (by kernel_rfl) rfl rfl (YJ_bin rfl rfl (iop_sub (hc.2.i hd.2))) ?_
  refine AJ_y 30 rfl (by kernel_rfl) (by kernel_rfl) rfl rfl (YJ_assign rfl) ?_
  refine AJ_y 31 rfl (by kernel_rfl) (by kernel_rfl) rfl rfl (YJ_assign rfl) ?_
  refine AJ_y 32 rfl (by kernel_rfl) (by kernel_rfl) rfl rfl (YJ_assign rfl) ?_
  refine AJ_y 33 rfl (by kernel_rfl) (by kernel_rfl) rfl rfl (YJ_assign rfl) ?_
  refine AJ_y 34 rfl (by kernel_rfl) (by kernel_rfl) rfl rfl (YJ_assign rfl) ?_
  refine AJ_y 35 rfl (by kernel_rfl) (by kernel_rfl) rfl rfl (YJ_assign rfl) ?_
  refine AJ_done (by kernel_rfl) ?_
  refine QJ_then ?_
  refine CJ_seq ?_
  refine CJ_seq ?_
  refine CJ_reg ?_
  refine LJ_y rfl rfl (YJ_move rfl) ?_
  refine LJ_y rfl rfl (YJ_move rfl) ?_
  refine LJ_y rfl rfl (YJ_move rfl) ?_
  refine LJ_y rfl rfl (YJ_move rfl) ?_
  refine LJ_y rfl rfl (YJ_move rfl) ?_
  refine LJ_y rfl rfl (YJ_move rfl) ?_
  refine LJ_buildSlice (cs := [_, _, _, _, _, _]) rfl rfl elt_55 zer_3 rfl (by decide) (pvs := [(_, _), (_, _), (_, _), (_, _), (_, _), (_, _)]) rfl rfl rfl ?_
  intro b5
  refine LJ_freeze ?_
  refine LJ_addF (r' := sliceR 1 (some ⟨b5, 0, none⟩) 6 (Iv [a1 - d1, a2 - d2, e1 - d1, e2 - d2, c1 - d1, c2 - d2])) (.head _) (fun w S h => cellsR_slice (n := 6) rfl w S h) ?_
  refine LJ_call0 rfl rfl rfl rfl rfl (small_c (l := [a1 - d1, a2 - d2, e1 - d1, e2 - d2, c1 - d1, c2 - d2]) rfl (by simp)) (AllIn.sub (And.intro (by repeat first | exact .head _ | apply List.Mem.tail) trivial)) ?_
  refine LJ_nil ?_
  refine QJ_then ?_
  refine CJ_cond rfl (fun h54 => ?_) (fun h54 => ?_)
  · try simp only [decide_eq_true_eq, decide_eq_false_iff_not, Bool.not_eq_true', Bool.not_eq_false', Bool.and_eq_true, Bool.and_eq_false_iff, beq_iff_eq, bne_iff_ne, beq_eq_false_iff_ne, bne_eq_false_iff_eq, ne_eq, decide_eq_decide] at h54
    obtain ⟨g1, g2, g3, g4, g5, g6⟩ := all6 h54
    refine CJ_seq ?_
    refine CJ_reg ?_
    refine LJ_y rfl rfl (YJ_move rfl) ?_
    refine LJ_y rfl rfl (YJ_move rfl) ?_
    refine LJ_y rfl rfl (YJ_move rfl) ?_
    refine LJ_y rfl rfl (YJ_move rfl) ?_
    refine LJ_y rfl rfl (YJ_move rfl) ?_
    refine LJ_y rfl rfl (YJ_move rfl) ?_
    refine LJ_call0 rfl rfl rfl rfl rfl (quick_c g1 g2 g3 g4 g5 g6) (AllIn.sub (by first | exact trivial | exact And.intro (by repeat first | exact .head _ | apply List.Mem.tail) trivial | exact And.intro (by repeat first | exact .head _ | apply List.Mem.tail) (And.intro (by repeat first | exact .head _ | apply List.Mem.tail) trivial))) ?_
    refine LJ_y rfl rfl (YJ_assign rfl) ?_
    refine LJ_nil ?_
    refine QJ_then ?_
    refine CJ_ret ?_
    refine QJ_then_ret ?_
    refine QJ_fin (.inl rfl) (μ' := []) (μr := _) (φ' := []) (res_tmp rfl rfl) (List.Perm.refl _) (fun _ h => nomatch h) ?_
    exact ⟨rfl, rfl, rfl⟩
  · try simp only [decide_eq_true_eq, decide_eq_false_iff_not, Bool.not_eq_true', Bool.not_eq_false', Bool.and_eq_true, Bool.and_eq_false_iff, beq_iff_eq, bne_iff_ne, beq_eq_false_iff_ne, bne_eq_false_iff_eq, ne_eq, decide_eq_decide] at h54
    refine CJ_skip ?_
    refine QJ_then ?_
    refine CJ_seq ?_
    refine CJ_reg ?_
    refine LJ_y rfl rfl (YJ_assign rfl) ?_
    refine LJ_nil ?_
    refine QJ_then ?_
    refine CJ_seq ?_
    refine CJ_reg ?_
    refine LJ_y rfl rfl (YJ_assign rfl) ?_
    refine LJ_nil ?_
    refine QJ_then ?_
    refine CJ_seq ?_
    refine CJ_reg ?_
    refine LJ_y rfl rfl (YJ_move rfl) ?_
    refine LJ_y rfl rfl (YJ_move rfl) ?_
    refine LJ_y rfl rfl (YJ_move rfl) ?_
    refine LJ_callX rfl rfl rfl rfl rfl (csq_c ta1 ta2) (AllIn.sub (by first | exact trivial | exact And.intro (by repeat first | exact .head _ | apply List.Mem.tail) trivial | exact And.intro (by repeat first | exact .head _ | apply List.Mem.tail) (And.intro (by repeat first | exact .head _ | apply List.Mem.tail) trivial))) ?_
    rintro ⟨A1, k1⟩ hcap1
    dsimp only at hcap1
    dsimp only [List.cons_append, List.nil_append]
    refine LJ_y rfl rfl (YJ_move rfl) ?_
    refine LJ_y rfl rfl (YJ_move rfl) ?_
    refine LJ_y rfl rfl (YJ_move rfl) ?_
    refine LJ_y rfl rfl (YJ_move rfl) ?_
    refine LJ_y rfl rfl (YJ_move rfl) ?_
    refine LJ_callX rfl rfl rfl rfl rfl (cdet_c te1 te2 tc1 tc2) (AllIn.sub (by first | exact trivial | exact And.intro (by repeat first | exact .head _ | apply List.Mem.tail) trivial | exact And.intro (by repeat first | exact .head _ | apply List.Mem.tail) (And.intro (by repeat first | exact .head _ | apply List.Mem.tail) trivial))) ?_
    rintro ⟨A2, k2⟩ hcap2
    dsimp only at hcap2
    dsimp only [List.cons_append, List.nil_append]
    refine LJ_callX rfl rfl rfl rfl rfl (nmul_c (Nat.le_trans (sq_d ta1 ta2) (by decide)) (dl_big (det_r te1 te2 tc1 tc2)) hcap1 hcap2) (AllIn.sub (And.intro (by repeat first | exact .head _ | apply List.Mem.tail) (And.intro (by repeat first | exact .head _ | apply List.Mem.tail) trivial))) ?_
    rintro ⟨A3, k3⟩ hcap3
    dsimp only at hcap3
    dsimp only [List.cons_append, List.nil_append]
    refine LJ_y rfl rfl (YJ_move rfl) ?_
    refine LJ_y rfl rfl (YJ_move rfl) ?_
    refine LJ_y rfl rfl (YJ_move rfl) ?_
    refine LJ_callX rfl rfl rfl rfl rfl (csq_c te1 te2) (AllIn.sub (by first | exact trivial | exact And.intro (by repeat first | exact .head _ | apply List.Mem.tail) trivial | exact And.intro (by repeat first | exact .head _ | apply List.Mem.tail) (And.intro (by repeat first | exact .head _ | apply List.Mem.tail) trivial))) ?_
    rintro ⟨A4, k4⟩ hcap4
    dsimp only at hcap4
    dsimp only [List.cons_append, List.nil_append]
    refine LJ_y rfl rfl (YJ_move rfl) ?_
    refine LJ_y rfl rfl (YJ_move rfl) ?_
    refine LJ_y rfl rfl (YJ_move rfl) ?_
    refine LJ_y rfl rfl (YJ_move rfl) ?_
    refine LJ_y rfl rfl (YJ_move rfl) ?_
    refine LJ_callX rfl rfl rfl rfl rfl (cdet_c tc1 tc2 ta1 ta2) (AllIn.sub (by first | exact trivial | exact And.intro (by repeat first | exact .head _ | apply List.Mem.tail) trivial | exact And.intro (by repeat first | exact .head _ | apply List.Mem.tail) (And.intro (by repeat first | exact .head _ | apply List.Mem.tail) trivial))) ?_
    rintro ⟨A5, k5⟩ hcap5
    dsimp only at hcap5
    dsimp only [List.cons_append, List.nil_append]
    refine LJ_callX rfl rfl rfl rfl rfl (nmul_c (Nat.le_trans (sq_d te1 te2) (by decide)) (dl_big (det_r tc1 tc2 ta1 ta2)) hcap4 hcap5) (AllIn.sub (And.intro (by repeat first | exact .head _ | apply List.Mem.tail) (And.intro (by repeat first | exact .head _ | apply List.Mem.tail) trivial))) ?_
    rintro ⟨A6, k6⟩ hcap6
    dsimp only at hcap6
    dsimp only [List.cons_append, List.nil_append]
    refine LJ_y rfl rfl (YJ_move rfl) ?_
    refine LJ_y rfl rfl (YJ_move rfl) ?_
    refine LJ_y rfl rfl (YJ_move rfl) ?_
    refine LJ_callX rfl rfl rfl rfl rfl (csq_c tc1 tc2) (AllIn.sub (by first | exact trivial | exact And.intro (by repeat first | exact .head _ | apply List.Mem.tail) trivial | exact And.intro (by repeat first | exact .head _ | apply List.Mem.tail) (And.intro (by repeat first | exact .head _ | apply List.Mem.tail) trivial))) ?_
    rintro ⟨A7, k7⟩ hcap7
    dsimp only at hcap7
    dsimp only [List.cons_append, List.nil_append]
    refine LJ_y rfl rfl (YJ_move rfl) ?_
    refine LJ_y rfl rfl (YJ_move rfl) ?_
    refine LJ_y rfl rfl (YJ_move rfl) ?_
    refine LJ_y rfl rfl (YJ_move rfl) ?_
    refine LJ_y rfl rfl (YJ_move rfl) ?_
    refine LJ_callX rfl rfl rfl rfl rfl (cdet_c ta1 ta2 te1 te2) (AllIn.sub (by first | exact trivial | exact And.intro (by repeat first | exact .head _ | apply List.Mem.tail) trivial | exact And.intro (by repeat first | exact .head _ | apply List.Mem.tail) (And.intro (by repeat first | exact .head _ | apply List.Mem.tail) trivial))) ?_
    rintro ⟨A8, k8⟩ hcap8
    dsimp only at hcap8
    dsimp only [List.cons_append, List.nil_append]
    refine LJ_callX rfl rfl rfl rfl rfl (nmul_c (Nat.le_trans (sq_d tc1 tc2) (by decide)) (dl_big (det_r ta1 ta2 te1 te2)) hcap7 hcap8) (AllIn.sub (And.intro (by repeat first | exact .head _ | apply List.Mem.tail) (And.intro (by repeat first | exact .head _ | apply List.Mem.tail) trivial))) ?_
    rintro ⟨A9, k9⟩ hcap9
    dsimp only at hcap9
    dsimp only [List.cons_append, List.nil_append]
    refine LJ_buildSliceN (vs := [_, _, _]) (cs := [_, _, _, _, _, _]) rfl rfl elt_169 zer_100 (by decide) (by decide) rfl rfl rfl rfl rfl ?_
    intro b6
    refine LJ_freeze ?_
    refine LJ_addF (r' := sliceR 2 (some ⟨b6, 0, none⟩) 3 (numCells [(((a1 - d1) * (a1 - d1) + (a2 - d2) * (a2 - d2)) * det (e1 - d1) (e2 - d2) (c1 - d1) (c2 - d2), A3, k3), (((e1 - d1) * (e1 - d1) + (e2 - d2) * (e2 - d2)) * det (c1 - d1) (c2 - d2) (a1 - d1) (a2 - d2), A6, k6), (((c1 - d1) * (c1 - d1) + (c2 - d2) * (c2 - d2)) * det (a1 - d1) (a2 - d2) (e1 - d1) (e2 - d2), A9, k9)])) (.head _) (fun w S h => cellsR_slice (n := 3) rfl w S h) ?_
    have hL : ∀ t, t ∈ ([(((a1 - d1) * (a1 - d1) + (a2 - d2) * (a2 - d2)) * det (e1 - d1) (e2 - d2) (c1 - d1) (c2 - d2), A3, k3), (((e1 - d1) * (e1 - d1) + (e2 - d2) * (e2 - d2)) * det (c1 - d1) (c2 - d2) (a1 - d1) (a2 - d2), A6, k6), (((c1 - d1) * (c1 - d1) + (c2 - d2) * (c2 - d2)) * det (a1 - d1) (a2 - d2) (e1 - d1) (e2 - d2), A9, k9)] : List NumT) → dl t.1 ≤ 1000 ∧ dl t.1 ≤ t.2.2 := by
      intro t ht
      rcases List.mem_cons.1 ht with rfl | ht
      · exact ⟨term_d ta1 ta2 te1 te2 tc1 tc2, hcap3⟩
      rcases List.mem_cons.1 ht with rfl | ht
      · exact ⟨term_d te1 te2 tc1 tc2 ta1 ta2, hcap6⟩
      rcases List.mem_cons.1 ht with rfl | ht
      · exact ⟨term_d tc1 tc2 ta1 ta2 te1 te2, hcap9⟩
      exact absurd ht (List.not_mem_nil)
    have hdl : dl (det (e1 - d1) (e2 - d2) (c1 - d1) (c2 - d2) * ((a1 - d1) * (a1 - d1) + (a2 - d2) * (a2 - d2)) + det (c1 - d1) (c2 - d2) (a1 - d1) (a2 - d2) * ((e1 - d1) * (e1 - d1) + (e2 - d2) * (e2 - d2)) + det (a1 - d1) (a2 - d2) (e1 - d1) (e2 - d2) * ((c1 - d1) * (c1 - d1) + (c2 - d2) * (c2 - d2))) ≤ 100000 := by
      rw [← psum3 (A := none) (B := none) (C := none) (k := 0) (l := 0) (m := 0)]
      simp only [psum]
      exact Nat.le_trans (dl_add (term_d ta1 ta2 te1 te2 tc1 tc2) (dl_add (term_d te1 te2 tc1 tc2 ta1 ta2) (dl_add (term_d tc1 tc2 ta1 ta2 te1 te2) (Nat.le_of_eq dl_zero)))) (by decide)
    refine LJ_callX rfl rfl rfl rfl rfl (nsum_c (L := [(((a1 - d1) * (a1 - d1) + (a2 - d2) * (a2 - d2)) * det (e1 - d1) (e2 - d2) (c1 - d1) (c2 - d2), A3, k3), (((e1 - d1) * (e1 - d1) + (e2 - d2) * (e2 - d2)) * det (c1 - d1) (c2 - d2) (a1 - d1) (a2 - d2), A6, k6), (((c1 - d1) * (c1 - d1) + (c2 - d2) * (c2 - d2)) * det (a1 - d1) (a2 - d2) (e1 - d1) (e2 - d2), A9, k9)]) rfl (by simp) hL) (AllIn.sub (And.intro (by repeat first | exact .head _ | apply List.Mem.tail) (And.intro (by repeat first | exact .head _ | apply List.Mem.tail) (And.intro (by repeat first | exact .head _ | apply List.Mem.tail) (And.intro (by repeat first | exact .head _ | apply List.Mem.tail) trivial))))) ?_
    rw [psum3]
    rintro ⟨A10, k10⟩ hcap10
    dsimp only at hcap10
    dsimp only [List.cons_append, List.nil_append]
    refine LJ_call0 rfl rfl rfl rfl rfl (nsign_c hdl hcap10) (AllIn.sub (And.intro (by repeat first | exact .head _ | apply List.Mem.tail) trivial)) ?_
    refine LJ_y rfl rfl (YJ_assign rfl) ?_
    refine LJ_nil ?_
    refine QJ_then ?_
    refine CJ_ret ?_
    refine QJ_fin (.inl rfl) (μ' := []) (μr := _) (φ' := []) (res_tmp rfl rfl) (List.Perm.refl _) (fun _ h => nomatch h) ?_
    exact ⟨rfl, rfl, rfl⟩


theorem tmk {x : Int} (h : -2147483648 ≤ x ∧ x ≤ 2147483648) : Tm x := h
theorem p00 : P2 0 0 := ⟨tmk (by omega), tmk (by omega)⟩
theorem p20 : P2 2 0 := ⟨tmk (by omega), tmk (by omega)⟩
theorem p02 : P2 0 2 := ⟨tmk (by omega), tmk (by omega)⟩
theorem p22 : P2 2 2 := ⟨tmk (by omega), tmk (by omega)⟩
theorem p11 : P2 1 1 := ⟨tmk (by omega), tmk (by omega)⟩


end Go.Proofs.Ytbanlhlggkdanaa
