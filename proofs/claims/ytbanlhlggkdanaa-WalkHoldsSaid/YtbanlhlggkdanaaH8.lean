/- The walk of isohyetlaw10.WalkHolds. -/
import Derived.Test.YtbanlhlggkdanaaQ3
set_option linter.unusedSimpArgs false
set_option linter.unusedVariables false
namespace Go.Proofs.Ytbanlhlggkdanaa
open Go.RowKit

theorem ent_3 : Enter Try.prog 3 = true := by kernel_rfl
theorem zer_26 : zer Try.prog 26 = some (.slice none 0 0) := by kernel_rfl
theorem tyi_24 : tyi Try.prog 24 = some (true, 6) := by kernel_rfl
theorem arrt_24 : arrt Try.prog 24 = some (3, 23, 2) := by kernel_rfl
theorem zer_28 : zer Try.prog 28 = some (.pointer none) := by kernel_rfl


theorem hold_in {pts : List (Int × Int)} {a b c : Int} {n0 n1 n2 : Int} {f0 f1 f2 : Bool} {p1 p2 : Int} : hld pts ⟨a, b, c, n0, n1, n2, f0, f1, f2⟩ (p1, p2) ↔
    0 ≤ sgn (A2 (ptAt pts a).1 (ptAt pts a).2 (ptAt pts b).1 (ptAt pts b).2 p1 p2) ∧ 0 ≤ sgn (A2 (ptAt pts b).1 (ptAt pts b).2 (ptAt pts c).1 (ptAt pts c).2 p1 p2) ∧ 0 ≤ sgn (A2 (ptAt pts c).1 (ptAt pts c).2 (ptAt pts a).1 (ptAt pts a).2 p1 p2) := by
  rw [sgn_nonneg, sgn_nonneg, sgn_nonneg]
  constructor
  · rintro ⟨h0, h1, h2⟩
    exact ⟨Int.not_lt.1 h2, Int.not_lt.1 h0, Int.not_lt.1 h1⟩
  · rintro ⟨h2, h0, h1⟩
    exact ⟨Int.not_lt.2 h0, Int.not_lt.2 h1, Int.not_lt.2 h2⟩
theorem hold_vert {pts : List (Int × Int)} {a b c : Int} {n0 n1 n2 : Int} {f0 f1 f2 : Bool} (hD : 0 < A2 (ptAt pts a).1 (ptAt pts a).2 (ptAt pts b).1 (ptAt pts b).2 (ptAt pts c).1 (ptAt pts c).2) :
    hld pts ⟨a, b, c, n0, n1, n2, f0, f1, f2⟩ (ptAt pts a) ∧ hld pts ⟨a, b, c, n0, n1, n2, f0, f1, f2⟩ (ptAt pts b) ∧ hld pts ⟨a, b, c, n0, n1, n2, f0, f1, f2⟩ (ptAt pts c) := by
  have d1 : 0 < A2 (ptAt pts b).1 (ptAt pts b).2 (ptAt pts c).1 (ptAt pts c).2 (ptAt pts a).1 (ptAt pts a).2 := by rw [A2_rot]; exact hD
  have d2 : 0 < A2 (ptAt pts c).1 (ptAt pts c).2 (ptAt pts a).1 (ptAt pts a).2 (ptAt pts b).1 (ptAt pts b).2 := by rw [A2_rot]; exact d1
  refine ⟨(hold_in (p1 := (ptAt pts a).1) (p2 := (ptAt pts a).2)).2 ?_, (hold_in (p1 := (ptAt pts b).1) (p2 := (ptAt pts b).2)).2 ?_, (hold_in (p1 := (ptAt pts c).1) (p2 := (ptAt pts c).2)).2 ?_⟩ <;> simp only [sgn_nonneg, A2_one, A2_two] <;> omega
theorem A2_flip (a1 a2 e1 e2 c1 c2 : Int) : A2 a1 a2 e1 e2 c1 c2 = -A2 a1 a2 c1 c2 e1 e2 := by rw [A2_eq, A2_eq]; grind
theorem ne_dec {p q : Prop} [Decidable p] [Decidable q] (h : p ↔ q) : (decide p != decide q) = false := by simp [h]
theorem ne_fls {p : Prop} [Decidable p] (h : ¬ p) : (decide p != false) = false := by simp [h]
/-- the points of the law -/
abbrev hPts (a1 a2 e1 e2 c1 c2 : Int) : List (Int × Int) := [(tm a1, tm a2), (tm e1, tm e2), (tm c1, tm c2)]
theorem hPts_ok (a1 a2 e1 e2 c1 c2 : Int) : ∀ j, j < (hPts a1 a2 e1 e2 c1 c2).length → P2 ((hPts a1 a2 e1 e2 c1 c2).getD j (0, 0)).1 ((hPts a1 a2 e1 e2 c1 c2).getD j (0, 0)).2 := by
  intro j hj
  have : j = 0 ∨ j = 1 ∨ j = 2 := by simp at hj; omega
  rcases this with rfl | rfl | rfl <;> exact tm_p _ _


set_option maxRecDepth 100000 in
set_option maxHeartbeats 8000000 in
theorem wholds_bad {a1 a2 e1 e2 c1 c2 q1 q2 : Int} (hA : pA (hPts a1 a2 e1 e2 c1 c2) 0 1 2 = 0) : Tri Try.prog 3 [.agg #[.int .i64 a1, .int .i64 a2, .int .i64 e1, .int .i64 e2, .int .i64 c1, .int .i64 c2], ptv q1 q2] [] [] (Ret0 (.bool true)) := by
  refine Tri_ofM (N := 111) Try.func3 rfl ent_3 rfl rfl ?_
  intro w0 S0 T0
  show CJ _ _ _ [(0, _), (1, _)] _ _
  have hP := hPts_ok a1 a2 e1 e2 c1 c2
  have ll : (hPts a1 a2 e1 e2 c1 c2).length ≤ 100000 := show 3 ≤ 100000 by decide
  have l0 : 0 < (hPts a1 a2 e1 e2 c1 c2).length := show 0 < 3 by decide
  have l1 : 1 < (hPts a1 a2 e1 e2 c1 c2).length := show 1 < 3 by decide
  have l2 : 2 < (hPts a1 a2 e1 e2 c1 c2).length := show 2 < 3 by decide
  
  refine CJ_seq ?_
  refine CJ_reg ?_
  refine LJ_box (cs := #[_, _, _, _, _, _]) rfl rfl rfl rfl ?_
  intro b1
  refine LJ_box (cs := #[_, _]) rfl rfl rfl rfl ?_
  intro b2
  refine LJ_alloc (cs := #[_]) rfl rfl zer_4 rfl ?_
  intro b3
  refine LJ_nil ?_
  refine QJ_then ?_
  refine CJ_seq ?_
  refine CJ_seq ?_
  refine CJ_reg ?_
  refine LJ_call0 rfl rfl rfl rfl rfl fit10_c (fun _ h => nomatch h) ?_
  refine LJ_y rfl rfl (YJ_not rfl) ?_
  refine LJ_nil ?_
  refine QJ_then ?_
  refine CJ_condF rfl ?_
  refine CJ_skip ?_
  refine QJ_then ?_
  refine CJ_seq ?_
  refine CJ_newRow 23 2 ?_
  refine CJ_reg ?_
  refine LJ_alloc (cs := #[_]) rfl rfl zer_26 rfl ?_
  intro b4
  refine LJ_nil ?_
  refine QJ_then ?_
  refine CJ_seq ?_
  refine CJ_seq ?_
  refine CJ_reg ?_
  first | refine LJ_y rfl rfl (YJ_loadN (vs := [_, _, _, _, _, _]) rfl tyi_24 (by repeat first | exact .head _ | apply List.Mem.tail) rfl rfl) ?_ | refine LJ_y rfl rfl (YJ_loadFactN (vs := [_, _, _, _, _, _]) rfl tyi_24 (by repeat first | exact .head _ | apply List.Mem.tail) rfl rfl) ?_
  refine LJ_y rfl rfl (YJ_move rfl) ?_
  refine LJ_nil ?_
  refine QJ_then ?_
  refine CJ_block ?_
  refine CJ_loopN 4 ?_
  refine CN_succ ?_
  refine CJ_seq ?_
  refine CJ_reg ?_
  refine LJ_y rfl rfl (YJ_bin rfl rfl rfl) ?_
  refine LJ_nil ?_
  refine QJ_then ?_
  refine CJ_seq ?_
  refine CJ_condT rfl ?_
  refine CJ_skip ?_
  refine QJ_then ?_
  refine CJ_seq ?_
  refine CJ_block ?_
  refine CJ_seq ?_
  refine CJ_reg ?_
  refine LJ_y rfl rfl (YJ_indexN (vs := [_, _]) rfl rfl arrt_24 tyi_23 (by omega) (by omega) rfl) ?_
  refine LJ_alloc (cs := #[_, _]) rfl rfl zer_23 rfl ?_
  intro b5
  refine LJ_store (cs' := #[_, _]) (μ' := [_, _, _, _, _, _]) 0 rfl rfl rfl rfl tyi_23 rfl (Nat.le_of_ble_eq_true rfl) rfl rfl rfl ?_
  refine LJ_nil ?_
  refine QJ_then ?_
  refine CJ_regM mix (by kernel_rfl) (fun _ _ _ _ _ h => h) [[], [5], [4, 5], [], [], []] ?_
  first | refine BJ_l 0 1 rfl (by kernel_rfl) (by kernel_rfl) (by kernel_rfl) rfl (by kernel_rfl) (by repeat first | exact .head _ | apply List.Mem.tail) rfl rfl (YJ_loadL rfl tyi_26 (by repeat first | exact .head _ | apply List.Mem.tail) rfl) ?_ | refine BJ_l 0 1 rfl (by kernel_rfl) (by kernel_rfl) (by kernel_rfl) rfl (by kernel_rfl) (by repeat first | exact .head _ | apply List.Mem.tail) rfl rfl (YJ_loadFact rfl tyi_26 (by repeat first | exact .head _ | apply List.Mem.tail) rfl) ?_
  first | refine BJ_l 1 0 rfl (by kernel_rfl) (by kernel_rfl) (by kernel_rfl) rfl (by kernel_rfl) (by repeat first | exact .head _ | apply List.Mem.tail) rfl rfl (YJ_loadN (vs := [_, _]) rfl tyi_23 (by repeat first | exact .head _ | apply List.Mem.tail) rfl rfl) ?_ | refine BJ_l 1 0 rfl (by kernel_rfl) (by kernel_rfl) (by kernel_rfl) rfl (by kernel_rfl) (by repeat first | exact .head _ | apply List.Mem.tail) rfl rfl (YJ_loadFactN (vs := [_, _]) rfl tyi_23 (by repeat first | exact .head _ | apply List.Mem.tail) rfl rfl) ?_
  refine BJ_call0 2 rfl (by kernel_rfl) rfl rfl rfl rfl rfl (And.intro (.inr (by repeat first | exact .head _ | apply List.Mem.tail)) (And.intro (.inr (by repeat first | exact .head _ | apply List.Mem.tail)) (And.intro (.inr (by repeat first | exact .head _ | apply List.Mem.tail)) (And.intro (.inr (by repeat first | exact .head _ | apply List.Mem.tail)) (And.intro (.inr (by repeat first | exact .head _ | apply List.Mem.tail)) (And.intro (.inr (by repeat first | exact .head _ | apply List.Mem.tail)) (trivial))))))) (tame_c) (fun _ h => nomatch h) ?_
  refine BJ_buildSlice (vs := [_]) (cs := [_, _]) 3 rfl (by kernel_rfl) rfl rfl elt_26 zer_23 (by decide) (by decide) rfl rfl rfl rfl rfl (fun b => (And.intro (.inr (by repeat first | exact .head _ | apply List.Mem.tail)) (And.intro (.inr (by repeat first | exact .head _ | apply List.Mem.tail)) (And.intro (.inr (by repeat first | exact .head _ | apply List.Mem.tail)) (And.intro (.inr (by repeat first | exact .head _ | apply List.Mem.tail)) (And.intro (.inr (by repeat first | exact .head _ | apply List.Mem.tail)) (And.intro (.inr (by repeat first | exact .head _ | apply List.Mem.tail)) (trivial)))))))) ?_
  intro b6
  refine BJ_append 4 3 rfl (by kernel_rfl) rfl rfl elt_26 zer_23 rfl rfl rfl rfl (Rd_own (by repeat first | exact .head _ | apply List.Mem.tail)) rfl rfl (by omega) (by omega) (by decide) rfl (fun _ _ => (And.intro (.inr (by repeat first | exact .head _ | apply List.Mem.tail)) (And.intro (.inr (by repeat first | exact .head _ | apply List.Mem.tail)) (And.intro (.inl rfl) (And.intro (.inr (by repeat first | exact .head _ | apply List.Mem.tail)) (And.intro (.inr (by repeat first | exact .head _ | apply List.Mem.tail)) (And.intro (.inr (by repeat first | exact .head _ | apply List.Mem.tail)) (trivial)))))))) ?_
  intro A26 c26
  show BJ _ _ _ _ _ _ _ _ (_ :: _ :: _ :: _ :: _ :: _ :: _ :: _) _
  refine BJ_store (cs' := #[_]) (μ' := [_, _, _, _, _, _, _]) 5 2 rfl (by kernel_rfl) rfl rfl rfl rfl tyi_26 rfl (Nat.le_of_ble_eq_true rfl) rfl rfl rfl (And.intro (.inr (by repeat first | exact .head _ | apply List.Mem.tail)) (And.intro (.inl rfl) (And.intro (.inl rfl) (And.intro (.inr (by repeat first | exact .head _ | apply List.Mem.tail)) (And.intro (.inr (by repeat first | exact .head _ | apply List.Mem.tail)) (And.intro (.inr (by repeat first | exact .head _ | apply List.Mem.tail)) (trivial))))))) ?_
  refine BJ_done (by kernel_rfl) ?_
  refine QJ_in_normal ?_
  refine QJ_then ?_
  refine CJ_reg ?_
  first | refine LJ_y rfl rfl (YJ_bin rfl rfl (iop_add (by omega))) ?_ | refine LJ_y rfl rfl (YJ_bin rfl rfl rfl) ?_
  refine LJ_y rfl rfl (YJ_move rfl) ?_
  refine LJ_nil ?_
  refine QJ_thenN ?_
  refine CN_succ ?_
  refine CJ_seq ?_
  refine CJ_reg ?_
  refine LJ_y rfl rfl (YJ_bin rfl rfl rfl) ?_
  refine LJ_nil ?_
  refine QJ_then ?_
  refine CJ_seq ?_
  refine CJ_condT rfl ?_
  refine CJ_skip ?_
  refine QJ_then ?_
  refine CJ_seq ?_
  refine CJ_block ?_
  refine CJ_seq ?_
  refine CJ_reg ?_
  refine LJ_y rfl rfl (YJ_indexN (vs := [_, _]) rfl rfl arrt_24 tyi_23 (by omega) (by omega) rfl) ?_
  refine LJ_alloc (cs := #[_, _]) rfl rfl zer_23 rfl ?_
  intro b7
  refine LJ_store (cs' := #[_, _]) (μ' := [_, _, _, _, _, _, _, _]) 0 rfl rfl rfl rfl tyi_23 rfl (Nat.le_of_ble_eq_true rfl) rfl rfl rfl ?_
  refine LJ_nil ?_
  refine QJ_then ?_
  refine CJ_regM mix (by kernel_rfl) (fun _ _ _ _ _ h => h) [[], [], [], [5], [4, 5], [], [], []] ?_
  first | refine BJ_l 0 3 rfl (by kernel_rfl) (by kernel_rfl) (by kernel_rfl) rfl (by kernel_rfl) (by repeat first | exact .head _ | apply List.Mem.tail) rfl rfl (YJ_loadL rfl tyi_26 (by repeat first | exact .head _ | apply List.Mem.tail) rfl) ?_ | refine BJ_l 0 3 rfl (by kernel_rfl) (by kernel_rfl) (by kernel_rfl) rfl (by kernel_rfl) (by repeat first | exact .head _ | apply List.Mem.tail) rfl rfl (YJ_loadFact rfl tyi_26 (by repeat first | exact .head _ | apply List.Mem.tail) rfl) ?_
  first | refine BJ_l 1 0 rfl (by kernel_rfl) (by kernel_rfl) (by kernel_rfl) rfl (by kernel_rfl) (by repeat first | exact .head _ | apply List.Mem.tail) rfl rfl (YJ_loadN (vs := [_, _]) rfl tyi_23 (by repeat first | exact .head _ | apply List.Mem.tail) rfl rfl) ?_ | refine BJ_l 1 0 rfl (by kernel_rfl) (by kernel_rfl) (by kernel_rfl) rfl (by kernel_rfl) (by repeat first | exact .head _ | apply List.Mem.tail) rfl rfl (YJ_loadFactN (vs := [_, _]) rfl tyi_23 (by repeat first | exact .head _ | apply List.Mem.tail) rfl rfl) ?_
  refine BJ_call0 2 rfl (by kernel_rfl) rfl rfl rfl rfl rfl (And.intro (.inr (by repeat first | exact .head _ | apply List.Mem.tail)) (And.intro (.inr (by repeat first | exact .head _ | apply List.Mem.tail)) (And.intro (.inr (by repeat first | exact .head _ | apply List.Mem.tail)) (And.intro (.inr (by repeat first | exact .head _ | apply List.Mem.tail)) (And.intro (.inr (by repeat first | exact .head _ | apply List.Mem.tail)) (And.intro (.inr (by repeat first | exact .head _ | apply List.Mem.tail)) (And.intro (.inr (by repeat first | exact .head _ | apply List.Mem.tail)) (And.intro (.inr (by repeat first | exact .head _ | apply List.Mem.tail)) (trivial))))))))) (tame_c) (fun _ h => nomatch h) ?_
  refine BJ_buildSlice (vs := [_]) (cs := [_, _]) 3 rfl (by kernel_rfl) rfl rfl elt_26 zer_23 (by decide) (by decide) rfl rfl rfl rfl rfl (fun b => (And.intro (.inr (by repeat first | exact .head _ | apply List.Mem.tail)) (And.intro (.inr (by repeat first | exact .head _ | apply List.Mem.tail)) (And.intro (.inr (by repeat first | exact .head _ | apply List.Mem.tail)) (And.intro (.inr (by repeat first | exact .head _ | apply List.Mem.tail)) (And.intro (.inr (by repeat first | exact .head _ | apply List.Mem.tail)) (And.intro (.inr (by repeat first | exact .head _ | apply List.Mem.tail)) (And.intro (.inr (by repeat first | exact .head _ | apply List.Mem.tail)) (And.intro (.inr (by repeat first | exact .head _ | apply List.Mem.tail)) (trivial)))))))))) ?_
  intro b8
  refine BJ_append 4 5 rfl (by kernel_rfl) rfl rfl elt_26 zer_23 rfl rfl rfl rfl (Rd_own (by repeat first | exact .head _ | apply List.Mem.tail)) rfl rfl (by omega) (by omega) (by decide) rfl (fun _ _ => (And.intro (.inr (by repeat first | exact .head _ | apply List.Mem.tail)) (And.intro (.inr (by repeat first | exact .head _ | apply List.Mem.tail)) (And.intro (.inr (by repeat first | exact .head _ | apply List.Mem.tail)) (And.intro (.inr (by repeat first | exact .head _ | apply List.Mem.tail)) (And.intro (.inl rfl) (And.intro (.inr (by repeat first | exact .head _ | apply List.Mem.tail)) (And.intro (.inr (by repeat first | exact .head _ | apply List.Mem.tail)) (And.intro (.inr (by repeat first | exact .head _ | apply List.Mem.tail)) (trivial)))))))))) ?_
  intro A26 c26
  show BJ _ _ _ _ _ _ _ _ (_ :: _ :: _ :: _ :: _ :: _ :: _ :: _ :: _ :: _) _
  refine BJ_store (cs' := #[_]) (μ' := [_, _, _, _, _, _, _, _, _]) 5 4 rfl (by kernel_rfl) rfl rfl rfl rfl tyi_26 rfl (Nat.le_of_ble_eq_true rfl) rfl rfl rfl (And.intro (.inr (by repeat first | exact .head _ | apply List.Mem.tail)) (And.intro (.inr (by repeat first | exact .head _ | apply List.Mem.tail)) (And.intro (.inr (by repeat first | exact .head _ | apply List.Mem.tail)) (And.intro (.inl rfl) (And.intro (.inl rfl) (And.intro (.inr (by repeat first | exact .head _ | apply List.Mem.tail)) (And.intro (.inr (by repeat first | exact .head _ | apply List.Mem.tail)) (And.intro (.inr (by repeat first | exact .head _ | apply List.Mem.tail)) (trivial))))))))) ?_
  refine BJ_done (by kernel_rfl) ?_
  refine QJ_in_normal ?_
  refine QJ_then ?_
  refine CJ_reg ?_
  first | refine LJ_y rfl rfl (YJ_bin rfl rfl (iop_add (by omega))) ?_ | refine LJ_y rfl rfl (YJ_bin rfl rfl rfl) ?_
  refine LJ_y rfl rfl (YJ_move rfl) ?_
  refine LJ_nil ?_
  refine QJ_thenN ?_
  refine CN_succ ?_
  refine CJ_seq ?_
  refine CJ_reg ?_
  refine LJ_y rfl rfl (YJ_bin rfl rfl rfl) ?_
  refine LJ_nil ?_
  refine QJ_then ?_
  refine CJ_seq ?_
  refine CJ_condT rfl ?_
  refine CJ_skip ?_
  refine QJ_then ?_
  refine CJ_seq ?_
  refine CJ_block ?_
  refine CJ_seq ?_
  refine CJ_reg ?_
  refine LJ_y rfl rfl (YJ_indexN (vs := [_, _]) rfl rfl arrt_24 tyi_23 (by omega) (by omega) rfl) ?_
  refine LJ_alloc (cs := #[_, _]) rfl rfl zer_23 rfl ?_
  intro b9
  refine LJ_store (cs' := #[_, _]) (μ' := [_, _, _, _, _, _, _, _, _, _]) 0 rfl rfl rfl rfl tyi_23 rfl (Nat.le_of_ble_eq_true rfl) rfl rfl rfl ?_
  refine LJ_nil ?_
  refine QJ_then ?_
  refine CJ_regM mix (by kernel_rfl) (fun _ _ _ _ _ h => h) [[], [], [], [], [], [5], [4, 5], [], [], []] ?_
  first | refine BJ_l 0 5 rfl (by kernel_rfl) (by kernel_rfl) (by kernel_rfl) rfl (by kernel_rfl) (by repeat first | exact .head _ | apply List.Mem.tail) rfl rfl (YJ_loadL rfl tyi_26 (by repeat first | exact .head _ | apply List.Mem.tail) rfl) ?_ | refine BJ_l 0 5 rfl (by kernel_rfl) (by kernel_rfl) (by kernel_rfl) rfl (by kernel_rfl) (by repeat first | exact .head _ | apply List.Mem.tail) rfl rfl (YJ_loadFact rfl tyi_26 (by repeat first | exact .head _ | apply List.Mem.tail) rfl) ?_
  first | refine BJ_l 1 0 rfl (by kernel_rfl) (by kernel_rfl) (by kernel_rfl) rfl (by kernel_rfl) (by repeat first | exact .head _ | apply List.Mem.tail) rfl rfl (YJ_loadN (vs := [_, _]) rfl tyi_23 (by repeat first | exact .head _ | apply List.Mem.tail) rfl rfl) ?_ | refine BJ_l 1 0 rfl (by kernel_rfl) (by kernel_rfl) (by kernel_rfl) rfl (by kernel_rfl) (by repeat first | exact .head _ | apply List.Mem.tail) rfl rfl (YJ_loadFactN (vs := [_, _]) rfl tyi_23 (by repeat first | exact .head _ | apply List.Mem.tail) rfl rfl) ?_
  refine BJ_call0 2 rfl (by kernel_rfl) rfl rfl rfl rfl rfl (And.intro (.inr (by repeat first | exact .head _ | apply List.Mem.tail)) (And.intro (.inr (by repeat first | exact .head _ | apply List.Mem.tail)) (And.intro (.inr (by repeat first | exact .head _ | apply List.Mem.tail)) (And.intro (.inr (by repeat first | exact .head _ | apply List.Mem.tail)) (And.intro (.inr (by repeat first | exact .head _ | apply List.Mem.tail)) (And.intro (.inr (by repeat first | exact .head _ | apply List.Mem.tail)) (And.intro (.inr (by repeat first | exact .head _ | apply List.Mem.tail)) (And.intro (.inr (by repeat first | exact .head _ | apply List.Mem.tail)) (And.intro (.inr (by repeat first | exact .head _ | apply List.Mem.tail)) (And.intro (.inr (by repeat first | exact .head _ | apply List.Mem.tail)) (trivial))))))))))) (tame_c) (fun _ h => nomatch h) ?_
  refine BJ_buildSlice (vs := [_]) (cs := [_, _]) 3 rfl (by kernel_rfl) rfl rfl elt_26 zer_23 (by decide) (by decide) rfl rfl rfl rfl rfl (fun b => (And.intro (.inr (by repeat first | exact .head _ | apply List.Mem.tail)) (And.intro (.inr (by repeat first | exact .head _ | apply List.Mem.tail)) (And.intro (.inr (by repeat first | exact .head _ | apply List.Mem.tail)) (And.intro (.inr (by repeat first | exact .head _ | apply List.Mem.tail)) (And.intro (.inr (by repeat first | exact .head _ | apply List.Mem.tail)) (And.intro (.inr (by repeat first | exact .head _ | apply List.Mem.tail)) (And.intro (.inr (by repeat first | exact .head _ | apply List.Mem.tail)) (And.intro (.inr (by repeat first | exact .head _ | apply List.Mem.tail)) (And.intro (.inr (by repeat first | exact .head _ | apply List.Mem.tail)) (And.intro (.inr (by repeat first | exact .head _ | apply List.Mem.tail)) (trivial)))))))))))) ?_
  intro b10
  refine BJ_append 4 7 rfl (by kernel_rfl) rfl rfl elt_26 zer_23 rfl rfl rfl rfl (Rd_own (by repeat first | exact .head _ | apply List.Mem.tail)) rfl rfl (by omega) (by omega) (by decide) rfl (fun _ _ => (And.intro (.inr (by repeat first | exact .head _ | apply List.Mem.tail)) (And.intro (.inr (by repeat first | exact .head _ | apply List.Mem.tail)) (And.intro (.inr (by repeat first | exact .head _ | apply List.Mem.tail)) (And.intro (.inr (by repeat first | exact .head _ | apply List.Mem.tail)) (And.intro (.inr (by repeat first | exact .head _ | apply List.Mem.tail)) (And.intro (.inr (by repeat first | exact .head _ | apply List.Mem.tail)) (And.intro (.inl rfl) (And.intro (.inr (by repeat first | exact .head _ | apply List.Mem.tail)) (And.intro (.inr (by repeat first | exact .head _ | apply List.Mem.tail)) (And.intro (.inr (by repeat first | exact .head _ | apply List.Mem.tail)) (trivial)))))))))))) ?_
  intro A26 c26
  show BJ _ _ _ _ _ _ _ _ (_ :: _ :: _ :: _ :: _ :: _ :: _ :: _ :: _ :: _ :: _ :: _) _
  refine BJ_store (cs' := #[_]) (μ' := [_, _, _, _, _, _, _, _, _, _, _]) 5 6 rfl (by kernel_rfl) rfl rfl rfl rfl tyi_26 rfl (Nat.le_of_ble_eq_true rfl) rfl rfl rfl (And.intro (.inr (by repeat first | exact .head _ | apply List.Mem.tail)) (And.intro (.inr (by repeat first | exact .head _ | apply List.Mem.tail)) (And.intro (.inr (by repeat first | exact .head _ | apply List.Mem.tail)) (And.intro (.inr (by repeat first | exact .head _ | apply List.Mem.tail)) (And.intro (.inr (by repeat first | exact .head _ | apply List.Mem.tail)) (And.intro (.inl rfl) (And.intro (.inl rfl) (And.intro (.inr (by repeat first | exact .head _ | apply List.Mem.tail)) (And.intro (.inr (by repeat first | exact .head _ | apply List.Mem.tail)) (And.intro (.inr (by repeat first | exact .head _ | apply List.Mem.tail)) (trivial))))))))))) ?_
  refine BJ_done (by kernel_rfl) ?_
  refine QJ_in_normal ?_
  refine QJ_then ?_
  refine CJ_reg ?_
  first | refine LJ_y rfl rfl (YJ_bin rfl rfl (iop_add (by omega))) ?_ | refine LJ_y rfl rfl (YJ_bin rfl rfl rfl) ?_
  refine LJ_y rfl rfl (YJ_move rfl) ?_
  refine LJ_nil ?_
  refine QJ_thenN ?_
  refine CN_succ ?_
  refine CJ_seq ?_
  refine CJ_reg ?_
  refine LJ_y rfl rfl (YJ_bin rfl rfl rfl) ?_
  refine LJ_nil ?_
  refine QJ_then ?_
  refine CJ_seq ?_
  refine CJ_condF rfl ?_
  refine CJ_exit ?_
  refine QJ_then_exit ?_
  refine QJ_then_exit ?_
  refine QJ_in_exit ?_
  refine QJ_then ?_
  refine CJ_seq ?_
  refine CJ_reg ?_
  first | refine LJ_y rfl rfl (YJ_loadN (vs := [_, _]) rfl tyi_23 (by repeat first | exact .head _ | apply List.Mem.tail) rfl rfl) ?_ | refine LJ_y rfl rfl (YJ_loadFactN (vs := [_, _]) rfl tyi_23 (by repeat first | exact .head _ | apply List.Mem.tail) rfl rfl) ?_
  refine LJ_call0 rfl rfl rfl rfl rfl (tame_c) (fun _ h => nomatch h) ?_
  refine LJ_store (cs' := #[_, _]) (μ' := [_, _, _, _, _, _, _, _, _, _, _]) 9 rfl rfl rfl rfl tyi_23 rfl (Nat.le_of_ble_eq_true rfl) rfl rfl rfl ?_
  refine LJ_nil ?_
  refine QJ_then ?_
  refine CJ_seq ?_
  refine CJ_freezeRowK (n' := 3) (xs' := ptCells (hPts a1 a2 e1 e2 c1 c2)) 7 rfl rfl rfl ?_
  show CJ _ _ _ _ (_ :: _ :: _ :: _ :: _ :: _ :: _ :: _ :: _ :: _ :: _) _
  refine CJ_reg ?_
  first | refine LJ_y rfl rfl (YJ_loadL rfl tyi_26 (by repeat first | exact .head _ | apply List.Mem.tail) rfl) ?_ | refine LJ_y rfl rfl (YJ_loadFact rfl tyi_26 (by repeat first | exact .head _ | apply List.Mem.tail) rfl) ?_
  refine LJ_call0 rfl rfl rfl rfl rfl (new_bad (pts := (hPts a1 a2 e1 e2 c1 c2)) (a := 0) (b := 1) (c := 2) ll l0 l1 l2 hP hA) (fun r h => by rw [List.mem_singleton] at h; subst h; exact .head _) ?_
  refine LJ_y rfl rfl (YJ_move rfl) ?_
  refine LJ_y rfl rfl (YJ_extract rfl rfl) ?_
  refine LJ_y rfl rfl (YJ_extract rfl rfl) ?_
  refine LJ_alloc (cs := #[_]) rfl rfl zer_28 rfl ?_
  intro b11
  refine LJ_store (cs' := #[_]) (μ' := [_, _, _, _, _, _, _, _, _, _, _]) 0 rfl rfl rfl rfl tyi_28 rfl (Nat.le_of_ble_eq_true rfl) rfl rfl rfl ?_
  refine LJ_y rfl rfl (YJ_assign rfl) ?_
  refine LJ_nil ?_
  refine QJ_then ?_
  refine CJ_seq ?_
  refine CJ_seq ?_
  refine CJ_reg ?_
  refine LJ_y rfl rfl (YJ_move rfl) ?_
  refine LJ_y rfl rfl (YJ_not rfl) ?_
  refine LJ_nil ?_
  refine QJ_then ?_
  refine CJ_condT rfl ?_
  refine CJ_seq ?_
  refine CJ_reg ?_
  refine LJ_store (cs' := #[_]) (μ' := [_, _, _, _, _, _, _, _, _, _, _]) 8 rfl rfl rfl rfl tyi_4 rfl (Nat.le_of_ble_eq_true rfl) rfl rfl rfl ?_
  refine LJ_nil ?_
  refine QJ_then ?_
  refine CJ_ret ?_
  refine QJ_then_ret ?_
  refine QJ_finM (.inl rfl) [] rfl (μ' := []) (μr := [_, _, _, _, _, _, _, _, _, _, _]) (φ' := []) (res_cell1 rfl rfl (by repeat first | exact .head _ | apply List.Mem.tail) tyi_4) (permI [] rfl) (fun _ h => nomatch h) ?_
  exact ⟨rfl, rfl, rfl⟩

set_option maxRecDepth 100000 in
set_option maxHeartbeats 8000000 in
theorem wholds_pos {a1 a2 e1 e2 c1 c2 q1 q2 : Int} (hA : 0 < pA (hPts a1 a2 e1 e2 c1 c2) 0 1 2) : Tri Try.prog 3 [.agg #[.int .i64 a1, .int .i64 a2, .int .i64 e1, .int .i64 e2, .int .i64 c1, .int .i64 c2], ptv q1 q2] [] [] (Ret0 (.bool true)) := by
  refine Tri_ofM (N := 111) Try.func3 rfl ent_3 rfl rfl ?_
  intro w0 S0 T0
  show CJ _ _ _ [(0, _), (1, _)] _ _
  have hP := hPts_ok a1 a2 e1 e2 c1 c2
  have ll : (hPts a1 a2 e1 e2 c1 c2).length ≤ 100000 := show 3 ≤ 100000 by decide
  have l0 : 0 < (hPts a1 a2 e1 e2 c1 c2).length := show 0 < 3 by decide
  have l1 : 1 < (hPts a1 a2 e1 e2 c1 c2).length := show 1 < 3 by decide
  have l2 : 2 < (hPts a1 a2 e1 e2 c1 c2).length := show 2 < 3 by decide
  have hD : 0 < A2 (ptAt (hPts a1 a2 e1 e2 c1 c2) ((0 : Nat) : Int)).1 (ptAt (hPts a1 a2 e1 e2 c1 c2) ((0 : Nat) : Int)).2 (ptAt (hPts a1 a2 e1 e2 c1 c2) ((1 : Nat) : Int)).1 (ptAt (hPts a1 a2 e1 e2 c1 c2) ((1 : Nat) : Int)).2 (ptAt (hPts a1 a2 e1 e2 c1 c2) ((2 : Nat) : Int)).1 (ptAt (hPts a1 a2 e1 e2 c1 c2) ((2 : Nat) : Int)).2 := hA
  have hT := triNew_ok (pts := (hPts a1 a2 e1 e2 c1 c2)) (a := 0) (b := 1) (c := 2) l0 l1 l2
  have hG := triNew_g (pts := (hPts a1 a2 e1 e2 c1 c2)) (a := 0) (b := 1) (c := 2) l0 l1 l2
  obtain ⟨hv0, hv1, hv2⟩ := hold_vert (n0 := 1) (n1 := 2) (n2 := 3) (f0 := false) (f1 := false) (f2 := false) hD
  have hin := hold_in (pts := (hPts a1 a2 e1 e2 c1 c2)) (a := ((0 : Nat) : Int)) (b := ((1 : Nat) : Int)) (c := ((2 : Nat) : Int)) (n0 := 1) (n1 := 2) (n2 := 3) (f0 := false) (f1 := false) (f2 := false) (p1 := tm q1) (p2 := tm q2)
  refine CJ_seq ?_
  refine CJ_reg ?_
  refine LJ_box (cs := #[_, _, _, _, _, _]) rfl rfl rfl rfl ?_
  intro b1
  refine LJ_box (cs := #[_, _]) rfl rfl rfl rfl ?_
  intro b2
  refine LJ_alloc (cs := #[_]) rfl rfl zer_4 rfl ?_
  intro b3
  refine LJ_nil ?_
  refine QJ_then ?_
  refine CJ_seq ?_
  refine CJ_seq ?_
  refine CJ_reg ?_
  refine LJ_call0 rfl rfl rfl rfl rfl fit10_c (fun _ h => nomatch h) ?_
  refine LJ_y rfl rfl (YJ_not rfl) ?_
  refine LJ_nil ?_
  refine QJ_then ?_
  refine CJ_condF rfl ?_
  refine CJ_skip ?_
  refine QJ_then ?_
  refine CJ_seq ?_
  refine CJ_newRow 23 2 ?_
  refine CJ_reg ?_
  refine LJ_alloc (cs := #[_]) rfl rfl zer_26 rfl ?_
  intro b4
  refine LJ_nil ?_
  refine QJ_then ?_
  refine CJ_seq ?_
  refine CJ_seq ?_
  refine CJ_reg ?_
  first | refine LJ_y rfl rfl (YJ_loadN (vs := [_, _, _, _, _, _]) rfl tyi_24 (by repeat first | exact .head _ | apply List.Mem.tail) rfl rfl) ?_ | refine LJ_y rfl rfl (YJ_loadFactN (vs := [_, _, _, _, _, _]) rfl tyi_24 (by repeat first | exact .head _ | apply List.Mem.tail) rfl rfl) ?_
  refine LJ_y rfl rfl (YJ_move rfl) ?_
  refine LJ_nil ?_
  refine QJ_then ?_
  refine CJ_block ?_
  refine CJ_loopN 4 ?_
  refine CN_succ ?_
  refine CJ_seq ?_
  refine CJ_reg ?_
  refine LJ_y rfl rfl (YJ_bin rfl rfl rfl) ?_
  refine LJ_nil ?_
  refine QJ_then ?_
  refine CJ_seq ?_
  refine CJ_condT rfl ?_
  refine CJ_skip ?_
  refine QJ_then ?_
  refine CJ_seq ?_
  refine CJ_block ?_
  refine CJ_seq ?_
  refine CJ_reg ?_
  refine LJ_y rfl rfl (YJ_indexN (vs := [_, _]) rfl rfl arrt_24 tyi_23 (by omega) (by omega) rfl) ?_
  refine LJ_alloc (cs := #[_, _]) rfl rfl zer_23 rfl ?_
  intro b5
  refine LJ_store (cs' := #[_, _]) (μ' := [_, _, _, _, _, _]) 0 rfl rfl rfl rfl tyi_23 rfl (Nat.le_of_ble_eq_true rfl) rfl rfl rfl ?_
  refine LJ_nil ?_
  refine QJ_then ?_
  refine CJ_regM mix (by kernel_rfl) (fun _ _ _ _ _ h => h) [[], [5], [4, 5], [], [], []] ?_
  first | refine BJ_l 0 1 rfl (by kernel_rfl) (by kernel_rfl) (by kernel_rfl) rfl (by kernel_rfl) (by repeat first | exact .head _ | apply List.Mem.tail) rfl rfl (YJ_loadL rfl tyi_26 (by repeat first | exact .head _ | apply List.Mem.tail) rfl) ?_ | refine BJ_l 0 1 rfl (by kernel_rfl) (by kernel_rfl) (by kernel_rfl) rfl (by kernel_rfl) (by repeat first | exact .head _ | apply List.Mem.tail) rfl rfl (YJ_loadFact rfl tyi_26 (by repeat first | exact .head _ | apply List.Mem.tail) rfl) ?_
  first | refine BJ_l 1 0 rfl (by kernel_rfl) (by kernel_rfl) (by kernel_rfl) rfl (by kernel_rfl) (by repeat first | exact .head _ | apply List.Mem.tail) rfl rfl (YJ_loadN (vs := [_, _]) rfl tyi_23 (by repeat first | exact .head _ | apply List.Mem.tail) rfl rfl) ?_ | refine BJ_l 1 0 rfl (by kernel_rfl) (by kernel_rfl) (by kernel_rfl) rfl (by kernel_rfl) (by repeat first | exact .head _ | apply List.Mem.tail) rfl rfl (YJ_loadFactN (vs := [_, _]) rfl tyi_23 (by repeat first | exact .head _ | apply List.Mem.tail) rfl rfl) ?_
  refine BJ_call0 2 rfl (by kernel_rfl) rfl rfl rfl rfl rfl (And.intro (.inr (by repeat first | exact .head _ | apply List.Mem.tail)) (And.intro (.inr (by repeat first | exact .head _ | apply List.Mem.tail)) (And.intro (.inr (by repeat first | exact .head _ | apply List.Mem.tail)) (And.intro (.inr (by repeat first | exact .head _ | apply List.Mem.tail)) (And.intro (.inr (by repeat first | exact .head _ | apply List.Mem.tail)) (And.intro (.inr (by repeat first | exact .head _ | apply List.Mem.tail)) (trivial))))))) (tame_c) (fun _ h => nomatch h) ?_
  refine BJ_buildSlice (vs := [_]) (cs := [_, _]) 3 rfl (by kernel_rfl) rfl rfl elt_26 zer_23 (by decide) (by decide) rfl rfl rfl rfl rfl (fun b => (And.intro (.inr (by repeat first | exact .head _ | apply List.Mem.tail)) (And.intro (.inr (by repeat first | exact .head _ | apply List.Mem.tail)) (And.intro (.inr (by repeat first | exact .head _ | apply List.Mem.tail)) (And.intro (.inr (by repeat first | exact .head _ | apply List.Mem.tail)) (And.intro (.inr (by repeat first | exact .head _ | apply List.Mem.tail)) (And.intro (.inr (by repeat first | exact .head _ | apply List.Mem.tail)) (trivial)))))))) ?_
  intro b6
  refine BJ_append 4 3 rfl (by kernel_rfl) rfl rfl elt_26 zer_23 rfl rfl rfl rfl (Rd_own (by repeat first | exact .head _ | apply List.Mem.tail)) rfl rfl (by omega) (by omega) (by decide) rfl (fun _ _ => (And.intro (.inr (by repeat first | exact .head _ | apply List.Mem.tail)) (And.intro (.inr (by repeat first | exact .head _ | apply List.Mem.tail)) (And.intro (.inl rfl) (And.intro (.inr (by repeat first | exact .head _ | apply List.Mem.tail)) (And.intro (.inr (by repeat first | exact .head _ | apply List.Mem.tail)) (And.intro (.inr (by repeat first | exact .head _ | apply List.Mem.tail)) (trivial)))))))) ?_
  intro A26 c26
  show BJ _ _ _ _ _ _ _ _ (_ :: _ :: _ :: _ :: _ :: _ :: _ :: _) _
  refine BJ_store (cs' := #[_]) (μ' := [_, _, _, _, _, _, _]) 5 2 rfl (by kernel_rfl) rfl rfl rfl rfl tyi_26 rfl (Nat.le_of_ble_eq_true rfl) rfl rfl rfl (And.intro (.inr (by repeat first | exact .head _ | apply List.Mem.tail)) (And.intro (.inl rfl) (And.intro (.inl rfl) (And.intro (.inr (by repeat first | exact .head _ | apply List.Mem.tail)) (And.intro (.inr (by repeat first | exact .head _ | apply List.Mem.tail)) (And.intro (.inr (by repeat first | exact .head _ | apply List.Mem.tail)) (trivial))))))) ?_
  refine BJ_done (by kernel_rfl) ?_
  refine QJ_in_normal ?_
  refine QJ_then ?_
  refine CJ_reg ?_
  first | refine LJ_y rfl rfl (YJ_bin rfl rfl (iop_add (by omega))) ?_ | refine LJ_y rfl rfl (YJ_bin rfl rfl rfl) ?_
  refine LJ_y rfl rfl (YJ_move rfl) ?_
  refine LJ_nil ?_
  refine QJ_thenN ?_
  refine CN_succ ?_
  refine CJ_seq ?_
  refine CJ_reg ?_
  refine LJ_y rfl rfl (YJ_bin rfl rfl rfl) ?_
  refine LJ_nil ?_
  refine QJ_then ?_
  refine CJ_seq ?_
  refine CJ_condT rfl ?_
  refine CJ_skip ?_
  refine QJ_then ?_
  refine CJ_seq ?_
  refine CJ_block ?_
  refine CJ_seq ?_
  refine CJ_reg ?_
  refine LJ_y rfl rfl (YJ_indexN (vs := [_, _]) rfl rfl arrt_24 tyi_23 (by omega) (by omega) rfl) ?_
  refine LJ_alloc (cs := #[_, _]) rfl rfl zer_23 rfl ?_
  intro b7
  refine LJ_store (cs' := #[_, _]) (μ' := [_, _, _, _, _, _, _, _]) 0 rfl rfl rfl rfl tyi_23 rfl (Nat.le_of_ble_eq_true rfl) rfl rfl rfl ?_
  refine LJ_nil ?_
  refine QJ_then ?_
  refine CJ_regM mix (by kernel_rfl) (fun _ _ _ _ _ h => h) [[], [], [], [5], [4, 5], [], [], []] ?_
  first | refine BJ_l 0 3 rfl (by kernel_rfl) (by kernel_rfl) (by kernel_rfl) rfl (by kernel_rfl) (by repeat first | exact .head _ | apply List.Mem.tail) rfl rfl (YJ_loadL rfl tyi_26 (by repeat first | exact .head _ | apply List.Mem.tail) rfl) ?_ | refine BJ_l 0 3 rfl (by kernel_rfl) (by kernel_rfl) (by kernel_rfl) rfl (by kernel_rfl) (by repeat first | exact .head _ | apply List.Mem.tail) rfl rfl (YJ_loadFact rfl tyi_26 (by repeat first | exact .head _ | apply List.Mem.tail) rfl) ?_
  first | refine BJ_l 1 0 rfl (by kernel_rfl) (by kernel_rfl) (by kernel_rfl) rfl (by kernel_rfl) (by repeat first | exact .head _ | apply List.Mem.tail) rfl rfl (YJ_loadN (vs := [_, _]) rfl tyi_23 (by repeat first | exact .head _ | apply List.Mem.tail) rfl rfl) ?_ | refine BJ_l 1 0 rfl (by kernel_rfl) (by kernel_rfl) (by kernel_rfl) rfl (by kernel_rfl) (by repeat first | exact .head _ | apply List.Mem.tail) rfl rfl (YJ_loadFactN (vs := [_, _]) rfl tyi_23 (by repeat first | exact .head _ | apply List.Mem.tail) rfl rfl) ?_
  refine BJ_call0 2 rfl (by kernel_rfl) rfl rfl rfl rfl rfl (And.intro (.inr (by repeat first | exact .head _ | apply List.Mem.tail)) (And.intro (.inr (by repeat first | exact .head _ | apply List.Mem.tail)) (And.intro (.inr (by repeat first | exact .head _ | apply List.Mem.tail)) (And.intro (.inr (by repeat first | exact .head _ | apply List.Mem.tail)) (And.intro (.inr (by repeat first | exact .head _ | apply List.Mem.tail)) (And.intro (.inr (by repeat first | exact .head _ | apply List.Mem.tail)) (And.intro (.inr (by repeat first | exact .head _ | apply List.Mem.tail)) (And.intro (.inr (by repeat first | exact .head _ | apply List.Mem.tail)) (trivial))))))))) (tame_c) (fun _ h => nomatch h) ?_
  refine BJ_buildSlice (vs := [_]) (cs := [_, _]) 3 rfl (by kernel_rfl) rfl rfl elt_26 zer_23 (by decide) (by decide) rfl rfl rfl rfl rfl (fun b => (And.intro (.inr (by repeat first | exact .head _ | apply List.Mem.tail)) (And.intro (.inr (by repeat first | exact .head _ | apply List.Mem.tail)) (And.intro (.inr (by repeat first | exact .head _ | apply List.Mem.tail)) (And.intro (.inr (by repeat first | exact .head _ | apply List.Mem.tail)) (And.intro (.inr (by repeat first | exact .head _ | apply List.Mem.tail)) (And.intro (.inr (by repeat first | exact .head _ | apply List.Mem.tail)) (And.intro (.inr (by repeat first | exact .head _ | apply List.Mem.tail)) (And.intro (.inr (by repeat first | exact .head _ | apply List.Mem.tail)) (trivial)))))))))) ?_
  intro b8
  refine BJ_append 4 5 rfl (by kernel_rfl) rfl rfl elt_26 zer_23 rfl rfl rfl rfl (Rd_own (by repeat first | exact .head _ | apply List.Mem.tail)) rfl rfl (by omega) (by omega) (by decide) rfl (fun _ _ => (And.intro (.inr (by repeat first | exact .head _ | apply List.Mem.tail)) (And.intro (.inr (by repeat first | exact .head _ | apply List.Mem.tail)) (And.intro (.inr (by repeat first | exact .head _ | apply List.Mem.tail)) (And.intro (.inr (by repeat first | exact .head _ | apply List.Mem.tail)) (And.intro (.inl rfl) (And.intro (.inr (by repeat first | exact .head _ | apply List.Mem.tail)) (And.intro (.inr (by repeat first | exact .head _ | apply List.Mem.tail)) (And.intro (.inr (by repeat first | exact .head _ | apply List.Mem.tail)) (trivial)))))))))) ?_
  intro A26 c26
  show BJ _ _ _ _ _ _ _ _ (_ :: _ :: _ :: _ :: _ :: _ :: _ :: _ :: _ :: _) _
  refine BJ_store (cs' := #[_]) (μ' := [_, _, _, _, _, _, _, _, _]) 5 4 rfl (by kernel_rfl) rfl rfl rfl rfl tyi_26 rfl (Nat.le_of_ble_eq_true rfl) rfl rfl rfl (And.intro (.inr (by repeat first | exact .head _ | apply List.Mem.tail)) (And.intro (.inr (by repeat first | exact .head _ | apply List.Mem.tail)) (And.intro (.inr (by repeat first | exact .head _ | apply List.Mem.tail)) (And.intro (.inl rfl) (And.intro (.inl rfl) (And.intro (.inr (by repeat first | exact .head _ | apply List.Mem.tail)) (And.intro (.inr (by repeat first | exact .head _ | apply List.Mem.tail)) (And.intro (.inr (by repeat first | exact .head _ | apply List.Mem.tail)) (trivial))))))))) ?_
  refine BJ_done (by kernel_rfl) ?_
  refine QJ_in_normal ?_
  refine QJ_then ?_
  refine CJ_reg ?_
  first | refine LJ_y rfl rfl (YJ_bin rfl rfl (iop_add (by omega))) ?_ | refine LJ_y rfl rfl (YJ_bin rfl rfl rfl) ?_
  refine LJ_y rfl rfl (YJ_move rfl) ?_
  refine LJ_nil ?_
  refine QJ_thenN ?_
  refine CN_succ ?_
  refine CJ_seq ?_
  refine CJ_reg ?_
  refine LJ_y rfl rfl (YJ_bin rfl rfl rfl) ?_
  refine LJ_nil ?_
  refine QJ_then ?_
  refine CJ_seq ?_
  refine CJ_condT rfl ?_
  refine CJ_skip ?_
  refine QJ_then ?_
  refine CJ_seq ?_
  refine CJ_block ?_
  refine CJ_seq ?_
  refine CJ_reg ?_
  refine LJ_y rfl rfl (YJ_indexN (vs := [_, _]) rfl rfl arrt_24 tyi_23 (by omega) (by omega) rfl) ?_
  refine LJ_alloc (cs := #[_, _]) rfl rfl zer_23 rfl ?_
  intro b9
  refine LJ_store (cs' := #[_, _]) (μ' := [_, _, _, _, _, _, _, _, _, _]) 0 rfl rfl rfl rfl tyi_23 rfl (Nat.le_of_ble_eq_true rfl) rfl rfl rfl ?_
  refine LJ_nil ?_
  refine QJ_then ?_
  refine CJ_regM mix (by kernel_rfl) (fun _ _ _ _ _ h => h) [[], [], [], [], [], [5], [4, 5], [], [], []] ?_
  first | refine BJ_l 0 5 rfl (by kernel_rfl) (by kernel_rfl) (by kernel_rfl) rfl (by kernel_rfl) (by repeat first | exact .head _ | apply List.Mem.tail) rfl rfl (YJ_loadL rfl tyi_26 (by repeat first | exact .head _ | apply List.Mem.tail) rfl) ?_ | refine BJ_l 0 5 rfl (by kernel_rfl) (by kernel_rfl) (by kernel_rfl) rfl (by kernel_rfl) (by repeat first | exact .head _ | apply List.Mem.tail) rfl rfl (YJ_loadFact rfl tyi_26 (by repeat first | exact .head _ | apply List.Mem.tail) rfl) ?_
  first | refine BJ_l 1 0 rfl (by kernel_rfl) (by kernel_rfl) (by kernel_rfl) rfl (by kernel_rfl) (by repeat first | exact .head _ | apply List.Mem.tail) rfl rfl (YJ_loadN (vs := [_, _]) rfl tyi_23 (by repeat first | exact .head _ | apply List.Mem.tail) rfl rfl) ?_ | refine BJ_l 1 0 rfl (by kernel_rfl) (by kernel_rfl) (by kernel_rfl) rfl (by kernel_rfl) (by repeat first | exact .head _ | apply List.Mem.tail) rfl rfl (YJ_loadFactN (vs := [_, _]) rfl tyi_23 (by repeat first | exact .head _ | apply List.Mem.tail) rfl rfl) ?_
  refine BJ_call0 2 rfl (by kernel_rfl) rfl rfl rfl rfl rfl (And.intro (.inr (by repeat first | exact .head _ | apply List.Mem.tail)) (And.intro (.inr (by repeat first | exact .head _ | apply List.Mem.tail)) (And.intro (.inr (by repeat first | exact .head _ | apply List.Mem.tail)) (And.intro (.inr (by repeat first | exact .head _ | apply List.Mem.tail)) (And.intro (.inr (by repeat first | exact .head _ | apply List.Mem.tail)) (And.intro (.inr (by repeat first | exact .head _ | apply List.Mem.tail)) (And.intro (.inr (by repeat first | exact .head _ | apply List.Mem.tail)) (And.intro (.inr (by repeat first | exact .head _ | apply List.Mem.tail)) (And.intro (.inr (by repeat first | exact .head _ | apply List.Mem.tail)) (And.intro (.inr (by repeat first | exact .head _ | apply List.Mem.tail)) (trivial))))))))))) (tame_c) (fun _ h => nomatch h) ?_
  refine BJ_buildSlice (vs := [_]) (cs := [_, _]) 3 rfl (by kernel_rfl) rfl rfl elt_26 zer_23 (by decide) (by decide) rfl rfl rfl rfl rfl (fun b => (And.intro (.inr (by repeat first | exact .head _ | apply List.Mem.tail)) (And.intro (.inr (by repeat first | exact .head _ | apply List.Mem.tail)) (And.intro (.inr (by repeat first | exact .head _ | apply List.Mem.tail)) (And.intro (.inr (by repeat first | exact .head _ | apply List.Mem.tail)) (And.intro (.inr (by repeat first | exact .head _ | apply List.Mem.tail)) (And.intro (.inr (by repeat first | exact .head _ | apply List.Mem.tail)) (And.intro (.inr (by repeat first | exact .head _ | apply List.Mem.tail)) (And.intro (.inr (by repeat first | exact .head _ | apply List.Mem.tail)) (And.intro (.inr (by repeat first | exact .head _ | apply List.Mem.tail)) (And.intro (.inr (by repeat first | exact .head _ | apply List.Mem.tail)) (trivial)))))))))))) ?_
  intro b10
  refine BJ_append 4 7 rfl (by kernel_rfl) rfl rfl elt_26 zer_23 rfl rfl rfl rfl (Rd_own (by repeat first | exact .head _ | apply List.Mem.tail)) rfl rfl (by omega) (by omega) (by decide) rfl (fun _ _ => (And.intro (.inr (by repeat first | exact .head _ | apply List.Mem.tail)) (And.intro (.inr (by repeat first | exact .head _ | apply List.Mem.tail)) (And.intro (.inr (by repeat first | exact .head _ | apply List.Mem.tail)) (And.intro (.inr (by repeat first | exact .head _ | apply List.Mem.tail)) (And.intro (.inr (by repeat first | exact .head _ | apply List.Mem.tail)) (And.intro (.inr (by repeat first | exact .head _ | apply List.Mem.tail)) (And.intro (.inl rfl) (And.intro (.inr (by repeat first | exact .head _ | apply List.Mem.tail)) (And.intro (.inr (by repeat first | exact .head _ | apply List.Mem.tail)) (And.intro (.inr (by repeat first | exact .head _ | apply List.Mem.tail)) (trivial)))))))))))) ?_
  intro A26 c26
  show BJ _ _ _ _ _ _ _ _ (_ :: _ :: _ :: _ :: _ :: _ :: _ :: _ :: _ :: _ :: _ :: _) _
  refine BJ_store (cs' := #[_]) (μ' := [_, _, _, _, _, _, _, _, _, _, _]) 5 6 rfl (by kernel_rfl) rfl rfl rfl rfl tyi_26 rfl (Nat.le_of_ble_eq_true rfl) rfl rfl rfl (And.intro (.inr (by repeat first | exact .head _ | apply List.Mem.tail)) (And.intro (.inr (by repeat first | exact .head _ | apply List.Mem.tail)) (And.intro (.inr (by repeat first | exact .head _ | apply List.Mem.tail)) (And.intro (.inr (by repeat first | exact .head _ | apply List.Mem.tail)) (And.intro (.inr (by repeat first | exact .head _ | apply List.Mem.tail)) (And.intro (.inl rfl) (And.intro (.inl rfl) (And.intro (.inr (by repeat first | exact .head _ | apply List.Mem.tail)) (And.intro (.inr (by repeat first | exact .head _ | apply List.Mem.tail)) (And.intro (.inr (by repeat first | exact .head _ | apply List.Mem.tail)) (trivial))))))))))) ?_
  refine BJ_done (by kernel_rfl) ?_
  refine QJ_in_normal ?_
  refine QJ_then ?_
  refine CJ_reg ?_
  first | refine LJ_y rfl rfl (YJ_bin rfl rfl (iop_add (by omega))) ?_ | refine LJ_y rfl rfl (YJ_bin rfl rfl rfl) ?_
  refine LJ_y rfl rfl (YJ_move rfl) ?_
  refine LJ_nil ?_
  refine QJ_thenN ?_
  refine CN_succ ?_
  refine CJ_seq ?_
  refine CJ_reg ?_
  refine LJ_y rfl rfl (YJ_bin rfl rfl rfl) ?_
  refine LJ_nil ?_
  refine QJ_then ?_
  refine CJ_seq ?_
  refine CJ_condF rfl ?_
  refine CJ_exit ?_
  refine QJ_then_exit ?_
  refine QJ_then_exit ?_
  refine QJ_in_exit ?_
  refine QJ_then ?_
  refine CJ_seq ?_
  refine CJ_reg ?_
  first | refine LJ_y rfl rfl (YJ_loadN (vs := [_, _]) rfl tyi_23 (by repeat first | exact .head _ | apply List.Mem.tail) rfl rfl) ?_ | refine LJ_y rfl rfl (YJ_loadFactN (vs := [_, _]) rfl tyi_23 (by repeat first | exact .head _ | apply List.Mem.tail) rfl rfl) ?_
  refine LJ_call0 rfl rfl rfl rfl rfl (tame_c) (fun _ h => nomatch h) ?_
  refine LJ_store (cs' := #[_, _]) (μ' := [_, _, _, _, _, _, _, _, _, _, _]) 9 rfl rfl rfl rfl tyi_23 rfl (Nat.le_of_ble_eq_true rfl) rfl rfl rfl ?_
  refine LJ_nil ?_
  refine QJ_then ?_
  refine CJ_seq ?_
  refine CJ_freezeRowK (n' := 3) (xs' := ptCells (hPts a1 a2 e1 e2 c1 c2)) 7 rfl rfl rfl ?_
  show CJ _ _ _ _ (_ :: _ :: _ :: _ :: _ :: _ :: _ :: _ :: _ :: _ :: _) _
  refine CJ_reg ?_
  first | refine LJ_y rfl rfl (YJ_loadL rfl tyi_26 (by repeat first | exact .head _ | apply List.Mem.tail) rfl) ?_ | refine LJ_y rfl rfl (YJ_loadFact rfl tyi_26 (by repeat first | exact .head _ | apply List.Mem.tail) rfl) ?_
  refine LJ_callN rfl rfl rfl rfl rfl (new_pos (pts := (hPts a1 a2 e1 e2 c1 c2)) (a := 0) (b := 1) (c := 2) ll l0 l1 l2 hP hA) (fun r h => by rw [List.mem_singleton] at h; subst h; exact .head _) ?_
  intro Bm _
  refine LJ_freezeMesh (fun hm hmF hmA => ?_)
  refine LJ_y rfl rfl (YJ_move rfl) ?_
  refine LJ_y rfl rfl (YJ_extract rfl rfl) ?_
  refine LJ_y rfl rfl (YJ_extract rfl rfl) ?_
  refine LJ_alloc (cs := #[_]) rfl rfl zer_28 rfl ?_
  intro b11
  refine LJ_store (cs' := #[_]) (μ' := [_, _, _, _, _, _, _, _, _, _, _]) 0 rfl rfl rfl rfl tyi_28 rfl (Nat.le_of_ble_eq_true rfl) rfl rfl rfl ?_
  refine LJ_y rfl rfl (YJ_assign rfl) ?_
  refine LJ_nil ?_
  refine QJ_then ?_
  refine CJ_seq ?_
  refine CJ_seq ?_
  refine CJ_reg ?_
  refine LJ_y rfl rfl (YJ_move rfl) ?_
  refine LJ_y rfl rfl (YJ_not rfl) ?_
  refine LJ_nil ?_
  refine QJ_then ?_
  refine CJ_condF rfl ?_
  refine CJ_skip ?_
  refine QJ_then ?_
  refine CJ_seq ?_
  refine CJ_seq ?_
  refine CJ_reg ?_
  first | refine LJ_y rfl rfl (YJ_loadL rfl tyi_28 (by repeat first | exact .head _ | apply List.Mem.tail) rfl) ?_ | refine LJ_y rfl rfl (YJ_loadFact rfl tyi_28 (by repeat first | exact .head _ | apply List.Mem.tail) rfl) ?_
  refine LJ_callX rfl rfl rfl rfl rfl (all_c (B := Bm)) (fun _ h => nomatch h) ?_
  intro bA _
  refine LJ_nil ?_
  refine QJ_then ?_
  refine CJ_block ?_
  refine CJ_rangeFunc (μr := [_, _, _, _, _, _, _]) rfl (all_it (h := hm) (pts := (hPts a1 a2 e1 e2 c1 c2)) (tris := (triNew ((0 : Nat) : Int) ((1 : Nat) : Int) ((2 : Nat) : Int))) (by decide)) (all_sub (fun r h => frz_mesh r h)) (fun _ => rfl) (by kernel_rfl) (L := { ι := Unit, I := fun _ _ => True, F := fun _ _ => ([cellsR b3 #[.bool false] 4, cellsR b2 #[.int .i64 (tm q1), .int .i64 (tm q2)] 23, cellsR b4 #[.slice A26 3 c26] 26, cellsR b11 #[.pointer (some ⟨Bm, 0, none⟩)] 28], []), κ := Unit, Ix := fun _ _ _ => False, Fx := fun _ _ => ([], []) }) () trivial (permI [8, 8, 7] rfl) (fun _ h => nomatch h) ?_ ?_ ?_
  · intro lR DR fnR tmpsR WR SR TR pre xR iR hpre hI
    obtain ⟨n, t⟩ := xR
    have hx : (n, t) = ((0 : Nat), (⟨((0 : Nat) : Int), ((1 : Nat) : Int), ((2 : Nat) : Int), 1, 2, 3, false, false, false⟩ : Tr)) := by
      rw [triNew_reals] at hpre
      simpa using hpre.subset (List.mem_append_right _ (.head _))
    obtain ⟨rfl, rfl⟩ := Prod.mk.inj hx
    show RJ _ _ _ _ _ ((40, .agg #[.int .i64 ((0 : Nat) : Int), .int .i64 ((1 : Nat) : Int), .int .i64 ((2 : Nat) : Int), .int .i64 1, .int .i64 2, .int .i64 3, .bool false, .bool false, .bool false]) :: (39, .int .i64 ((0 : Nat) : Int)) :: _) (objR lR _ :: defR DR :: _ :: _ :: _ :: _ :: []) _
    refine RJ_seq ?_
    refine RJ_reg (by kernel_rfl) ?_
    refine LJ_y rfl rfl (YJ_assign rfl) ?_
    refine LJ_nil ?_
    refine QJ_thenR (by repeat with_reducible first | exact no_round | exact no_begin | apply no_then | apply no_block) ?_
    refine RJ_reg (by kernel_rfl) ?_
    refine LJ_alloc (cs := #[_, _, _, _, _, _, _, _, _]) rfl rfl zer_37 rfl ?_
    intro b12
    refine LJ_store (cs' := #[_, _, _, _, _, _, _, _, _]) (μ' := [_, _, _, _, _, _, _]) 0 rfl rfl rfl rfl tyi_37 rfl (Nat.le_of_ble_eq_true rfl) rfl (wr_all rfl) rfl ?_
    refine LJ_nil ?_
    refine QJ_begin (μr := [_, _, _, _, _, _]) (permI [1] rfl) ?_
    refine RJ_block ?_
    refine RJ_seq ?_
    refine RJ_regDA mix (by kernel_rfl) (fun _ _ _ _ _ h => h) _ _ (fun _ h => h) (fun _ h => h) (by kernel_rfl) [⟨18, 12, 23, #[.int .i64 0, .int .i64 0]⟩, ⟨19, 13, 23, #[.int .i64 0, .int .i64 0]⟩, ⟨20, 14, 23, #[.int .i64 0, .int .i64 0]⟩] 21 rfl (And.intro ⟨_, _, _, _, rfl, zer_23, rfl⟩ (And.intro ⟨_, _, _, _, rfl, zer_23, rfl⟩ (And.intro ⟨_, _, _, _, rfl, zer_23, rfl⟩ (trivial)))) rfl rfl ?_
    first | refine AA_y 0 rfl (by kernel_rfl) rfl rfl rfl (YJ_loadL rfl tyi_26 (by repeat first | exact .head _ | apply List.Mem.tail) rfl) ?_ | refine AA_y 0 rfl (by kernel_rfl) rfl rfl rfl (YJ_loadFact rfl tyi_26 (by repeat first | exact .head _ | apply List.Mem.tail) rfl) ?_
    first | refine AA_y 1 rfl (by kernel_rfl) rfl rfl rfl (YJ_fieldOwn rfl fld_37_0 rfl) ?_ | refine AA_y 1 rfl (by kernel_rfl) rfl rfl rfl (YJ_fieldAddr rfl fld_37_0) ?_
    first | refine AA_y 2 rfl (by kernel_rfl) rfl rfl rfl (YJ_ixArr rfl rfl arrt_34 (by omega) (by omega) rfl) ?_ | refine AA_y 2 rfl (by kernel_rfl) rfl rfl rfl (YJ_ixArrP rfl rfl arrt_34 (by omega) (by omega)) ?_
    first | refine AA_y 3 rfl (by kernel_rfl) rfl rfl rfl (YJ_loadL rfl tyi_3 (by repeat first | exact .head _ | apply List.Mem.tail) rfl) ?_ | refine AA_y 3 rfl (by kernel_rfl) rfl rfl rfl (YJ_loadFact rfl tyi_3 (by repeat first | exact .head _ | apply List.Mem.tail) rfl) ?_
    first | refine AA_y 4 rfl (by kernel_rfl) rfl rfl rfl (YJ_ixOwn rfl rfl elt_26 (by omega) (by omega)) ?_ | refine AA_y 4 rfl (by kernel_rfl) rfl rfl rfl (YJ_ixFact rfl rfl elt_26 (by repeat first | exact .head _ | apply List.Mem.tail) (by decide) (by omega) (by omega) (by omega)) ?_
    refine AA_y 5 rfl (by kernel_rfl) rfl rfl rfl (YJ_loadFactN (vs := [_, _]) (A := A26) (j := ((0 : Nat) : Int).toNat * 2) (xs := ptCells (hPts a1 a2 e1 e2 c1 c2)) rfl tyi_23 (by repeat first | exact .head _ | apply List.Mem.tail) rfl rfl) ?_
    first | refine AA_y 6 rfl (by kernel_rfl) rfl rfl rfl (YJ_loadL rfl tyi_26 (by repeat first | exact .head _ | apply List.Mem.tail) rfl) ?_ | refine AA_y 6 rfl (by kernel_rfl) rfl rfl rfl (YJ_loadFact rfl tyi_26 (by repeat first | exact .head _ | apply List.Mem.tail) rfl) ?_
    first | refine AA_y 7 rfl (by kernel_rfl) rfl rfl rfl (YJ_fieldOwn rfl fld_37_0 rfl) ?_ | refine AA_y 7 rfl (by kernel_rfl) rfl rfl rfl (YJ_fieldAddr rfl fld_37_0) ?_
    first | refine AA_y 8 rfl (by kernel_rfl) rfl rfl rfl (YJ_ixArr rfl rfl arrt_34 (by omega) (by omega) rfl) ?_ | refine AA_y 8 rfl (by kernel_rfl) rfl rfl rfl (YJ_ixArrP rfl rfl arrt_34 (by omega) (by omega)) ?_
    first | refine AA_y 9 rfl (by kernel_rfl) rfl rfl rfl (YJ_loadL rfl tyi_3 (by repeat first | exact .head _ | apply List.Mem.tail) rfl) ?_ | refine AA_y 9 rfl (by kernel_rfl) rfl rfl rfl (YJ_loadFact rfl tyi_3 (by repeat first | exact .head _ | apply List.Mem.tail) rfl) ?_
    first | refine AA_y 10 rfl (by kernel_rfl) rfl rfl rfl (YJ_ixOwn rfl rfl elt_26 (by omega) (by omega)) ?_ | refine AA_y 10 rfl (by kernel_rfl) rfl rfl rfl (YJ_ixFact rfl rfl elt_26 (by repeat first | exact .head _ | apply List.Mem.tail) (by decide) (by omega) (by omega) (by omega)) ?_
    refine AA_y 11 rfl (by kernel_rfl) rfl rfl rfl (YJ_loadFactN (vs := [_, _]) (A := A26) (j := ((1 : Nat) : Int).toNat * 2) (xs := ptCells (hPts a1 a2 e1 e2 c1 c2)) rfl tyi_23 (by repeat first | exact .head _ | apply List.Mem.tail) rfl rfl) ?_
    first | refine AA_y 12 rfl (by kernel_rfl) rfl rfl rfl (YJ_loadL rfl tyi_26 (by repeat first | exact .head _ | apply List.Mem.tail) rfl) ?_ | refine AA_y 12 rfl (by kernel_rfl) rfl rfl rfl (YJ_loadFact rfl tyi_26 (by repeat first | exact .head _ | apply List.Mem.tail) rfl) ?_
    first | refine AA_y 13 rfl (by kernel_rfl) rfl rfl rfl (YJ_fieldOwn rfl fld_37_0 rfl) ?_ | refine AA_y 13 rfl (by kernel_rfl) rfl rfl rfl (YJ_fieldAddr rfl fld_37_0) ?_
    first | refine AA_y 14 rfl (by kernel_rfl) rfl rfl rfl (YJ_ixArr rfl rfl arrt_34 (by omega) (by omega) rfl) ?_ | refine AA_y 14 rfl (by kernel_rfl) rfl rfl rfl (YJ_ixArrP rfl rfl arrt_34 (by omega) (by omega)) ?_
    first | refine AA_y 15 rfl (by kernel_rfl) rfl rfl rfl (YJ_loadL rfl tyi_3 (by repeat first | exact .head _ | apply List.Mem.tail) rfl) ?_ | refine AA_y 15 rfl (by kernel_rfl) rfl rfl rfl (YJ_loadFact rfl tyi_3 (by repeat first | exact .head _ | apply List.Mem.tail) rfl) ?_
    first | refine AA_y 16 rfl (by kernel_rfl) rfl rfl rfl (YJ_ixOwn rfl rfl elt_26 (by omega) (by omega)) ?_ | refine AA_y 16 rfl (by kernel_rfl) rfl rfl rfl (YJ_ixFact rfl rfl elt_26 (by repeat first | exact .head _ | apply List.Mem.tail) (by decide) (by omega) (by omega) (by omega)) ?_
    refine AA_y 17 rfl (by kernel_rfl) rfl rfl rfl (YJ_loadFactN (vs := [_, _]) (A := A26) (j := ((2 : Nat) : Int).toNat * 2) (xs := ptCells (hPts a1 a2 e1 e2 c1 c2)) rfl tyi_23 (by repeat first | exact .head _ | apply List.Mem.tail) rfl rfl) ?_
    refine AA_end (by kernel_rfl) rfl ?_
    intro bs hbs
    obtain ⟨b13, b14, b15, rfl⟩ := len_3 hbs
    clear hbs
    show AJ _ _ _ _ _ _ _ ((12, .pointer (some ⟨b13, 0, none⟩)) :: (13, .pointer (some ⟨b14, 0, none⟩)) :: (14, .pointer (some ⟨b15, 0, none⟩)) :: _) (cellsR b13 _ _ :: cellsR b14 _ _ :: cellsR b15 _ _ :: _) _
    refine AJ_store (cs' := #[_, _]) (μ' := [_, _, _, _, _, _, _, _, _, _]) 21 0 rfl (by kernel_rfl) rfl rfl rfl rfl tyi_23 rfl (Nat.le_of_ble_eq_true rfl) rfl rfl rfl (fun _ => AllIn.sub (And.intro (by repeat first | exact .head _ | apply List.Mem.tail) (And.intro (by repeat first | exact .head _ | apply List.Mem.tail) (And.intro (by repeat first | exact .head _ | apply List.Mem.tail) (And.intro (by repeat first | exact .head _ | apply List.Mem.tail) (And.intro (by repeat first | exact .head _ | apply List.Mem.tail) (And.intro (by repeat first | exact .head _ | apply List.Mem.tail) (And.intro (by repeat first | exact .head _ | apply List.Mem.tail) (trivial))))))))) ?_
    refine AJ_store (cs' := #[_, _]) (μ' := [_, _, _, _, _, _, _, _, _, _]) 22 1 rfl (by kernel_rfl) rfl rfl rfl rfl tyi_23 rfl (Nat.le_of_ble_eq_true rfl) rfl rfl rfl (fun _ => AllIn.sub (And.intro (by repeat first | exact .head _ | apply List.Mem.tail) (And.intro (by repeat first | exact .head _ | apply List.Mem.tail) (And.intro (by repeat first | exact .head _ | apply List.Mem.tail) (And.intro (by repeat first | exact .head _ | apply List.Mem.tail) (And.intro (by repeat first | exact .head _ | apply List.Mem.tail) (And.intro (by repeat first | exact .head _ | apply List.Mem.tail) (And.intro (by repeat first | exact .head _ | apply List.Mem.tail) (trivial))))))))) ?_
    refine AJ_store (cs' := #[_, _]) (μ' := [_, _, _, _, _, _, _, _, _, _]) 23 2 rfl (by kernel_rfl) rfl rfl rfl rfl tyi_23 rfl (Nat.le_of_ble_eq_true rfl) rfl rfl rfl (fun _ => AllIn.sub (And.intro (by repeat first | exact .head _ | apply List.Mem.tail) (And.intro (by repeat first | exact .head _ | apply List.Mem.tail) (And.intro (by repeat first | exact .head _ | apply List.Mem.tail) (And.intro (by repeat first | exact .head _ | apply List.Mem.tail) (And.intro (by repeat first | exact .head _ | apply List.Mem.tail) (And.intro (by repeat first | exact .head _ | apply List.Mem.tail) (And.intro (by repeat first | exact .head _ | apply List.Mem.tail) (trivial))))))))) ?_
    refine AJ_done (by kernel_rfl) ?_
    refine QJ_thenR (by repeat with_reducible first | exact no_round | exact no_begin | apply no_then | apply no_block) ?_
    refine RJ_seq ?_
    refine RJ_reg (by kernel_rfl) ?_
    first | refine LJ_y rfl rfl (YJ_loadN (vs := [_, _]) rfl tyi_23 (by repeat first | exact .head _ | apply List.Mem.tail) rfl rfl) ?_ | refine LJ_y rfl rfl (YJ_loadFactN (vs := [_, _]) rfl tyi_23 (by repeat first | exact .head _ | apply List.Mem.tail) rfl rfl) ?_
    first | refine LJ_y rfl rfl (YJ_loadN (vs := [_, _]) rfl tyi_23 (by repeat first | exact .head _ | apply List.Mem.tail) rfl rfl) ?_ | refine LJ_y rfl rfl (YJ_loadFactN (vs := [_, _]) rfl tyi_23 (by repeat first | exact .head _ | apply List.Mem.tail) rfl rfl) ?_
    first | refine LJ_y rfl rfl (YJ_loadN (vs := [_, _]) rfl tyi_23 (by repeat first | exact .head _ | apply List.Mem.tail) rfl rfl) ?_ | refine LJ_y rfl rfl (YJ_loadFactN (vs := [_, _]) rfl tyi_23 (by repeat first | exact .head _ | apply List.Mem.tail) rfl rfl) ?_
    refine LJ_call0 rfl rfl rfl rfl rfl (orient_c (tm_p _ _) (tm_p _ _) (tm_p _ _)) (fun _ h => nomatch h) ?_
    refine LJ_y rfl rfl (YJ_bin rfl rfl rfl) ?_
    refine LJ_y rfl rfl (YJ_move rfl) ?_
    refine LJ_boolC (fun h64 => ?_) (fun h64 => ?_)
    · try simp only [decide_eq_true_eq, decide_eq_false_iff_not, Bool.not_eq_true', Bool.not_eq_false', Bool.and_eq_true, Bool.and_eq_false_iff, beq_iff_eq, bne_iff_ne, beq_eq_false_iff_ne, bne_eq_false_iff_eq, ne_eq, decide_eq_decide] at h64
      first | refine LJ_y rfl rfl (YJ_loadN (vs := [_, _]) rfl tyi_23 (by repeat first | exact .head _ | apply List.Mem.tail) rfl rfl) ?_ | refine LJ_y rfl rfl (YJ_loadFactN (vs := [_, _]) rfl tyi_23 (by repeat first | exact .head _ | apply List.Mem.tail) rfl rfl) ?_
      first | refine LJ_y rfl rfl (YJ_loadN (vs := [_, _]) rfl tyi_23 (by repeat first | exact .head _ | apply List.Mem.tail) rfl rfl) ?_ | refine LJ_y rfl rfl (YJ_loadFactN (vs := [_, _]) rfl tyi_23 (by repeat first | exact .head _ | apply List.Mem.tail) rfl rfl) ?_
      first | refine LJ_y rfl rfl (YJ_loadN (vs := [_, _]) rfl tyi_23 (by repeat first | exact .head _ | apply List.Mem.tail) rfl rfl) ?_ | refine LJ_y rfl rfl (YJ_loadFactN (vs := [_, _]) rfl tyi_23 (by repeat first | exact .head _ | apply List.Mem.tail) rfl rfl) ?_
      refine LJ_call0 rfl rfl rfl rfl rfl (orient_c (tm_p _ _) (tm_p _ _) (tm_p _ _)) (fun _ h => nomatch h) ?_
      refine LJ_y rfl rfl (YJ_bin rfl rfl rfl) ?_
      refine LJ_y rfl rfl (YJ_pickT rfl rfl) ?_
      refine LJ_y rfl rfl (YJ_move rfl) ?_
      refine LJ_boolC (fun h71 => ?_) (fun h71 => ?_)
      · try simp only [decide_eq_true_eq, decide_eq_false_iff_not, Bool.not_eq_true', Bool.not_eq_false', Bool.and_eq_true, Bool.and_eq_false_iff, beq_iff_eq, bne_iff_ne, beq_eq_false_iff_ne, bne_eq_false_iff_eq, ne_eq, decide_eq_decide] at h71
        first | refine LJ_y rfl rfl (YJ_loadN (vs := [_, _]) rfl tyi_23 (by repeat first | exact .head _ | apply List.Mem.tail) rfl rfl) ?_ | refine LJ_y rfl rfl (YJ_loadFactN (vs := [_, _]) rfl tyi_23 (by repeat first | exact .head _ | apply List.Mem.tail) rfl rfl) ?_
        first | refine LJ_y rfl rfl (YJ_loadN (vs := [_, _]) rfl tyi_23 (by repeat first | exact .head _ | apply List.Mem.tail) rfl rfl) ?_ | refine LJ_y rfl rfl (YJ_loadFactN (vs := [_, _]) rfl tyi_23 (by repeat first | exact .head _ | apply List.Mem.tail) rfl rfl) ?_
        first | refine LJ_y rfl rfl (YJ_loadN (vs := [_, _]) rfl tyi_23 (by repeat first | exact .head _ | apply List.Mem.tail) rfl rfl) ?_ | refine LJ_y rfl rfl (YJ_loadFactN (vs := [_, _]) rfl tyi_23 (by repeat first | exact .head _ | apply List.Mem.tail) rfl rfl) ?_
        refine LJ_call0 rfl rfl rfl rfl rfl (orient_c (tm_p _ _) (tm_p _ _) (tm_p _ _)) (fun _ h => nomatch h) ?_
        refine LJ_y rfl rfl (YJ_bin rfl rfl rfl) ?_
        refine LJ_y rfl rfl (YJ_pickT rfl rfl) ?_
        refine LJ_y rfl rfl (YJ_assign rfl) ?_
        refine LJ_nil ?_
        refine QJ_thenR (by repeat with_reducible first | exact no_round | exact no_begin | apply no_then | apply no_block) ?_
        refine RJ_seq ?_
        refine RJ_reg (by kernel_rfl) ?_
        first | refine LJ_y rfl rfl (YJ_loadL rfl tyi_28 (by repeat first | exact .head _ | apply List.Mem.tail) rfl) ?_ | refine LJ_y rfl rfl (YJ_loadFact rfl tyi_28 (by repeat first | exact .head _ | apply List.Mem.tail) rfl) ?_
        refine LJ_y rfl rfl (YJ_move rfl) ?_
        first | refine LJ_y rfl rfl (YJ_loadN (vs := [_, _]) rfl tyi_23 (by repeat first | exact .head _ | apply List.Mem.tail) rfl rfl) ?_ | refine LJ_y rfl rfl (YJ_loadFactN (vs := [_, _]) rfl tyi_23 (by repeat first | exact .head _ | apply List.Mem.tail) rfl rfl) ?_
        refine LJ_call0 rfl rfl rfl rfl rfl (holds_c (h := hm) (pts := (hPts a1 a2 e1 e2 c1 c2)) (tris := (triNew ((0 : Nat) : Int) ((1 : Nat) : Int) ((2 : Nat) : Int))) (t := ⟨((0 : Nat) : Int), ((1 : Nat) : Int), ((2 : Nat) : Int), 1, 2, 3, false, false, false⟩) hP (by decide) rfl (by unfold Tr.ok; exact ⟨⟨by decide, Int.ofNat_lt.2 l0⟩, ⟨by decide, Int.ofNat_lt.2 l1⟩, ⟨by decide, Int.ofNat_lt.2 l2⟩⟩) (tm_p q1 q2)) (fun r h => .tail _ (frz_mesh r h)) ?_
        refine LJ_y rfl rfl (YJ_move rfl) ?_
        refine LJ_y rfl rfl (YJ_neb rfl rfl ubool_4) ?_
        refine LJ_y rfl rfl (YJ_move rfl) ?_
        refine LJ_bool (c := false) (ne_dec (hin.trans ⟨fun q => q.2.2, fun q => ⟨h64, h71, q⟩⟩)) ?_
        first | refine LJ_y rfl rfl (YJ_loadL rfl tyi_28 (by repeat first | exact .head _ | apply List.Mem.tail) rfl) ?_ | refine LJ_y rfl rfl (YJ_loadFact rfl tyi_28 (by repeat first | exact .head _ | apply List.Mem.tail) rfl) ?_
        refine LJ_y rfl rfl (YJ_move rfl) ?_
        first | refine LJ_y rfl rfl (YJ_loadN (vs := [_, _]) rfl tyi_23 (by repeat first | exact .head _ | apply List.Mem.tail) rfl rfl) ?_ | refine LJ_y rfl rfl (YJ_loadFactN (vs := [_, _]) rfl tyi_23 (by repeat first | exact .head _ | apply List.Mem.tail) rfl rfl) ?_
        refine LJ_call0 rfl rfl rfl rfl rfl (holds_c (h := hm) (pts := (hPts a1 a2 e1 e2 c1 c2)) (tris := (triNew ((0 : Nat) : Int) ((1 : Nat) : Int) ((2 : Nat) : Int))) (t := ⟨((0 : Nat) : Int), ((1 : Nat) : Int), ((2 : Nat) : Int), 1, 2, 3, false, false, false⟩) hP (by decide) rfl (by unfold Tr.ok; exact ⟨⟨by decide, Int.ofNat_lt.2 l0⟩, ⟨by decide, Int.ofNat_lt.2 l1⟩, ⟨by decide, Int.ofNat_lt.2 l2⟩⟩) (tm_p a1 a2)) (fun r h => .tail _ (frz_mesh r h)) ?_
        refine LJ_y rfl rfl (YJ_not rfl) ?_
        refine LJ_y rfl rfl (YJ_pickF rfl rfl) ?_
        refine LJ_y rfl rfl (YJ_move rfl) ?_
        refine LJ_bool (c := false) (congrArg not (decide_eq_true hv0)) ?_
        first | refine LJ_y rfl rfl (YJ_loadL rfl tyi_28 (by repeat first | exact .head _ | apply List.Mem.tail) rfl) ?_ | refine LJ_y rfl rfl (YJ_loadFact rfl tyi_28 (by repeat first | exact .head _ | apply List.Mem.tail) rfl) ?_
        refine LJ_y rfl rfl (YJ_move rfl) ?_
        first | refine LJ_y rfl rfl (YJ_loadN (vs := [_, _]) rfl tyi_23 (by repeat first | exact .head _ | apply List.Mem.tail) rfl rfl) ?_ | refine LJ_y rfl rfl (YJ_loadFactN (vs := [_, _]) rfl tyi_23 (by repeat first | exact .head _ | apply List.Mem.tail) rfl rfl) ?_
        refine LJ_call0 rfl rfl rfl rfl rfl (holds_c (h := hm) (pts := (hPts a1 a2 e1 e2 c1 c2)) (tris := (triNew ((0 : Nat) : Int) ((1 : Nat) : Int) ((2 : Nat) : Int))) (t := ⟨((0 : Nat) : Int), ((1 : Nat) : Int), ((2 : Nat) : Int), 1, 2, 3, false, false, false⟩) hP (by decide) rfl (by unfold Tr.ok; exact ⟨⟨by decide, Int.ofNat_lt.2 l0⟩, ⟨by decide, Int.ofNat_lt.2 l1⟩, ⟨by decide, Int.ofNat_lt.2 l2⟩⟩) (tm_p e1 e2)) (fun r h => .tail _ (frz_mesh r h)) ?_
        refine LJ_y rfl rfl (YJ_not rfl) ?_
        refine LJ_y rfl rfl (YJ_pickF rfl rfl) ?_
        refine LJ_y rfl rfl (YJ_move rfl) ?_
        refine LJ_bool (c := false) (congrArg not (decide_eq_true hv1)) ?_
        first | refine LJ_y rfl rfl (YJ_loadL rfl tyi_28 (by repeat first | exact .head _ | apply List.Mem.tail) rfl) ?_ | refine LJ_y rfl rfl (YJ_loadFact rfl tyi_28 (by repeat first | exact .head _ | apply List.Mem.tail) rfl) ?_
        refine LJ_y rfl rfl (YJ_move rfl) ?_
        first | refine LJ_y rfl rfl (YJ_loadN (vs := [_, _]) rfl tyi_23 (by repeat first | exact .head _ | apply List.Mem.tail) rfl rfl) ?_ | refine LJ_y rfl rfl (YJ_loadFactN (vs := [_, _]) rfl tyi_23 (by repeat first | exact .head _ | apply List.Mem.tail) rfl rfl) ?_
        refine LJ_call0 rfl rfl rfl rfl rfl (holds_c (h := hm) (pts := (hPts a1 a2 e1 e2 c1 c2)) (tris := (triNew ((0 : Nat) : Int) ((1 : Nat) : Int) ((2 : Nat) : Int))) (t := ⟨((0 : Nat) : Int), ((1 : Nat) : Int), ((2 : Nat) : Int), 1, 2, 3, false, false, false⟩) hP (by decide) rfl (by unfold Tr.ok; exact ⟨⟨by decide, Int.ofNat_lt.2 l0⟩, ⟨by decide, Int.ofNat_lt.2 l1⟩, ⟨by decide, Int.ofNat_lt.2 l2⟩⟩) (tm_p c1 c2)) (fun r h => .tail _ (frz_mesh r h)) ?_
        refine LJ_y rfl rfl (YJ_not rfl) ?_
        refine LJ_y rfl rfl (YJ_pickF rfl rfl) ?_
        refine LJ_nil ?_
        refine QJ_thenR (by repeat with_reducible first | exact no_round | exact no_begin | apply no_then | apply no_block) ?_
        refine RJ_condF2 rfl (congrArg not (decide_eq_true hv2)) ?_
        refine RJ_skip ?_
        refine QJ_in_normal ?_
        refine QJ_again (μ1 := [_, _, _, _, _]) (μ2 := [_, _, _, _]) (φ1 := []) (permI [3, 4, 4, 4, 4, 4] rfl) (fun _ h => nomatch h) ?_
        exact .inl ⟨rfl, (), trivial, rfl, rfl⟩
      · try simp only [decide_eq_true_eq, decide_eq_false_iff_not, Bool.not_eq_true', Bool.not_eq_false', Bool.and_eq_true, Bool.and_eq_false_iff, beq_iff_eq, bne_iff_ne, beq_eq_false_iff_ne, bne_eq_false_iff_eq, ne_eq, decide_eq_decide] at h71
        refine LJ_skip rfl rfl ?_
        refine LJ_skip rfl rfl ?_
        refine LJ_skip rfl rfl ?_
        refine LJ_skip rfl rfl ?_
        refine LJ_skip rfl rfl ?_
        refine LJ_y rfl rfl (YJ_pickF rfl rfl) ?_
        refine LJ_y rfl rfl (YJ_assign rfl) ?_
        refine LJ_nil ?_
        refine QJ_thenR (by repeat with_reducible first | exact no_round | exact no_begin | apply no_then | apply no_block) ?_
        refine RJ_seq ?_
        refine RJ_reg (by kernel_rfl) ?_
        first | refine LJ_y rfl rfl (YJ_loadL rfl tyi_28 (by repeat first | exact .head _ | apply List.Mem.tail) rfl) ?_ | refine LJ_y rfl rfl (YJ_loadFact rfl tyi_28 (by repeat first | exact .head _ | apply List.Mem.tail) rfl) ?_
        refine LJ_y rfl rfl (YJ_move rfl) ?_
        first | refine LJ_y rfl rfl (YJ_loadN (vs := [_, _]) rfl tyi_23 (by repeat first | exact .head _ | apply List.Mem.tail) rfl rfl) ?_ | refine LJ_y rfl rfl (YJ_loadFactN (vs := [_, _]) rfl tyi_23 (by repeat first | exact .head _ | apply List.Mem.tail) rfl rfl) ?_
        refine LJ_call0 rfl rfl rfl rfl rfl (holds_c (h := hm) (pts := (hPts a1 a2 e1 e2 c1 c2)) (tris := (triNew ((0 : Nat) : Int) ((1 : Nat) : Int) ((2 : Nat) : Int))) (t := ⟨((0 : Nat) : Int), ((1 : Nat) : Int), ((2 : Nat) : Int), 1, 2, 3, false, false, false⟩) hP (by decide) rfl (by unfold Tr.ok; exact ⟨⟨by decide, Int.ofNat_lt.2 l0⟩, ⟨by decide, Int.ofNat_lt.2 l1⟩, ⟨by decide, Int.ofNat_lt.2 l2⟩⟩) (tm_p q1 q2)) (fun r h => .tail _ (frz_mesh r h)) ?_
        refine LJ_y rfl rfl (YJ_move rfl) ?_
        refine LJ_y rfl rfl (YJ_neb rfl rfl ubool_4) ?_
        refine LJ_y rfl rfl (YJ_move rfl) ?_
        refine LJ_bool (c := false) (ne_fls (fun q => h71 (hin.1 q).2.1)) ?_
        first | refine LJ_y rfl rfl (YJ_loadL rfl tyi_28 (by repeat first | exact .head _ | apply List.Mem.tail) rfl) ?_ | refine LJ_y rfl rfl (YJ_loadFact rfl tyi_28 (by repeat first | exact .head _ | apply List.Mem.tail) rfl) ?_
        refine LJ_y rfl rfl (YJ_move rfl) ?_
        first | refine LJ_y rfl rfl (YJ_loadN (vs := [_, _]) rfl tyi_23 (by repeat first | exact .head _ | apply List.Mem.tail) rfl rfl) ?_ | refine LJ_y rfl rfl (YJ_loadFactN (vs := [_, _]) rfl tyi_23 (by repeat first | exact .head _ | apply List.Mem.tail) rfl rfl) ?_
        refine LJ_call0 rfl rfl rfl rfl rfl (holds_c (h := hm) (pts := (hPts a1 a2 e1 e2 c1 c2)) (tris := (triNew ((0 : Nat) : Int) ((1 : Nat) : Int) ((2 : Nat) : Int))) (t := ⟨((0 : Nat) : Int), ((1 : Nat) : Int), ((2 : Nat) : Int), 1, 2, 3, false, false, false⟩) hP (by decide) rfl (by unfold Tr.ok; exact ⟨⟨by decide, Int.ofNat_lt.2 l0⟩, ⟨by decide, Int.ofNat_lt.2 l1⟩, ⟨by decide, Int.ofNat_lt.2 l2⟩⟩) (tm_p a1 a2)) (fun r h => .tail _ (frz_mesh r h)) ?_
        refine LJ_y rfl rfl (YJ_not rfl) ?_
        refine LJ_y rfl rfl (YJ_pickF rfl rfl) ?_
        refine LJ_y rfl rfl (YJ_move rfl) ?_
        refine LJ_bool (c := false) (congrArg not (decide_eq_true hv0)) ?_
        first | refine LJ_y rfl rfl (YJ_loadL rfl tyi_28 (by repeat first | exact .head _ | apply List.Mem.tail) rfl) ?_ | refine LJ_y rfl rfl (YJ_loadFact rfl tyi_28 (by repeat first | exact .head _ | apply List.Mem.tail) rfl) ?_
        refine LJ_y rfl rfl (YJ_move rfl) ?_
        first | refine LJ_y rfl rfl (YJ_loadN (vs := [_, _]) rfl tyi_23 (by repeat first | exact .head _ | apply List.Mem.tail) rfl rfl) ?_ | refine LJ_y rfl rfl (YJ_loadFactN (vs := [_, _]) rfl tyi_23 (by repeat first | exact .head _ | apply List.Mem.tail) rfl rfl) ?_
        refine LJ_call0 rfl rfl rfl rfl rfl (holds_c (h := hm) (pts := (hPts a1 a2 e1 e2 c1 c2)) (tris := (triNew ((0 : Nat) : Int) ((1 : Nat) : Int) ((2 : Nat) : Int))) (t := ⟨((0 : Nat) : Int), ((1 : Nat) : Int), ((2 : Nat) : Int), 1, 2, 3, false, false, false⟩) hP (by decide) rfl (by unfold Tr.ok; exact ⟨⟨by decide, Int.ofNat_lt.2 l0⟩, ⟨by decide, Int.ofNat_lt.2 l1⟩, ⟨by decide, Int.ofNat_lt.2 l2⟩⟩) (tm_p e1 e2)) (fun r h => .tail _ (frz_mesh r h)) ?_
        refine LJ_y rfl rfl (YJ_not rfl) ?_
        refine LJ_y rfl rfl (YJ_pickF rfl rfl) ?_
        refine LJ_y rfl rfl (YJ_move rfl) ?_
        refine LJ_bool (c := false) (congrArg not (decide_eq_true hv1)) ?_
        first | refine LJ_y rfl rfl (YJ_loadL rfl tyi_28 (by repeat first | exact .head _ | apply List.Mem.tail) rfl) ?_ | refine LJ_y rfl rfl (YJ_loadFact rfl tyi_28 (by repeat first | exact .head _ | apply List.Mem.tail) rfl) ?_
        refine LJ_y rfl rfl (YJ_move rfl) ?_
        first | refine LJ_y rfl rfl (YJ_loadN (vs := [_, _]) rfl tyi_23 (by repeat first | exact .head _ | apply List.Mem.tail) rfl rfl) ?_ | refine LJ_y rfl rfl (YJ_loadFactN (vs := [_, _]) rfl tyi_23 (by repeat first | exact .head _ | apply List.Mem.tail) rfl rfl) ?_
        refine LJ_call0 rfl rfl rfl rfl rfl (holds_c (h := hm) (pts := (hPts a1 a2 e1 e2 c1 c2)) (tris := (triNew ((0 : Nat) : Int) ((1 : Nat) : Int) ((2 : Nat) : Int))) (t := ⟨((0 : Nat) : Int), ((1 : Nat) : Int), ((2 : Nat) : Int), 1, 2, 3, false, false, false⟩) hP (by decide) rfl (by unfold Tr.ok; exact ⟨⟨by decide, Int.ofNat_lt.2 l0⟩, ⟨by decide, Int.ofNat_lt.2 l1⟩, ⟨by decide, Int.ofNat_lt.2 l2⟩⟩) (tm_p c1 c2)) (fun r h => .tail _ (frz_mesh r h)) ?_
        refine LJ_y rfl rfl (YJ_not rfl) ?_
        refine LJ_y rfl rfl (YJ_pickF rfl rfl) ?_
        refine LJ_nil ?_
        refine QJ_thenR (by repeat with_reducible first | exact no_round | exact no_begin | apply no_then | apply no_block) ?_
        refine RJ_condF2 rfl (congrArg not (decide_eq_true hv2)) ?_
        refine RJ_skip ?_
        refine QJ_in_normal ?_
        refine QJ_again (μ1 := [_, _, _, _, _]) (μ2 := [_, _, _, _]) (φ1 := []) (permI [3, 4, 4, 4, 4, 4] rfl) (fun _ h => nomatch h) ?_
        exact .inl ⟨rfl, (), trivial, rfl, rfl⟩
    · try simp only [decide_eq_true_eq, decide_eq_false_iff_not, Bool.not_eq_true', Bool.not_eq_false', Bool.and_eq_true, Bool.and_eq_false_iff, beq_iff_eq, bne_iff_ne, beq_eq_false_iff_ne, bne_eq_false_iff_eq, ne_eq, decide_eq_decide] at h64
      refine LJ_skip rfl rfl ?_
      refine LJ_skip rfl rfl ?_
      refine LJ_skip rfl rfl ?_
      refine LJ_skip rfl rfl ?_
      refine LJ_skip rfl rfl ?_
      refine LJ_y rfl rfl (YJ_pickF rfl rfl) ?_
      refine LJ_y rfl rfl (YJ_move rfl) ?_
      refine LJ_skip rfl rfl ?_
      refine LJ_skip rfl rfl ?_
      refine LJ_skip rfl rfl ?_
      refine LJ_skip rfl rfl ?_
      refine LJ_skip rfl rfl ?_
      refine LJ_y rfl rfl (YJ_pickF rfl rfl) ?_
      refine LJ_y rfl rfl (YJ_assign rfl) ?_
      refine LJ_nil ?_
      refine QJ_thenR (by repeat with_reducible first | exact no_round | exact no_begin | apply no_then | apply no_block) ?_
      refine RJ_seq ?_
      refine RJ_reg (by kernel_rfl) ?_
      first | refine LJ_y rfl rfl (YJ_loadL rfl tyi_28 (by repeat first | exact .head _ | apply List.Mem.tail) rfl) ?_ | refine LJ_y rfl rfl (YJ_loadFact rfl tyi_28 (by repeat first | exact .head _ | apply List.Mem.tail) rfl) ?_
      refine LJ_y rfl rfl (YJ_move rfl) ?_
      first | refine LJ_y rfl rfl (YJ_loadN (vs := [_, _]) rfl tyi_23 (by repeat first | exact .head _ | apply List.Mem.tail) rfl rfl) ?_ | refine LJ_y rfl rfl (YJ_loadFactN (vs := [_, _]) rfl tyi_23 (by repeat first | exact .head _ | apply List.Mem.tail) rfl rfl) ?_
      refine LJ_call0 rfl rfl rfl rfl rfl (holds_c (h := hm) (pts := (hPts a1 a2 e1 e2 c1 c2)) (tris := (triNew ((0 : Nat) : Int) ((1 : Nat) : Int) ((2 : Nat) : Int))) (t := ⟨((0 : Nat) : Int), ((1 : Nat) : Int), ((2 : Nat) : Int), 1, 2, 3, false, false, false⟩) hP (by decide) rfl (by unfold Tr.ok; exact ⟨⟨by decide, Int.ofNat_lt.2 l0⟩, ⟨by decide, Int.ofNat_lt.2 l1⟩, ⟨by decide, Int.ofNat_lt.2 l2⟩⟩) (tm_p q1 q2)) (fun r h => .tail _ (frz_mesh r h)) ?_
      refine LJ_y rfl rfl (YJ_move rfl) ?_
      refine LJ_y rfl rfl (YJ_neb rfl rfl ubool_4) ?_
      refine LJ_y rfl rfl (YJ_move rfl) ?_
      refine LJ_bool (c := false) (ne_fls (fun q => h64 (hin.1 q).1)) ?_
      first | refine LJ_y rfl rfl (YJ_loadL rfl tyi_28 (by repeat first | exact .head _ | apply List.Mem.tail) rfl) ?_ | refine LJ_y rfl rfl (YJ_loadFact rfl tyi_28 (by repeat first | exact .head _ | apply List.Mem.tail) rfl) ?_
      refine LJ_y rfl rfl (YJ_move rfl) ?_
      first | refine LJ_y rfl rfl (YJ_loadN (vs := [_, _]) rfl tyi_23 (by repeat first | exact .head _ | apply List.Mem.tail) rfl rfl) ?_ | refine LJ_y rfl rfl (YJ_loadFactN (vs := [_, _]) rfl tyi_23 (by repeat first | exact .head _ | apply List.Mem.tail) rfl rfl) ?_
      refine LJ_call0 rfl rfl rfl rfl rfl (holds_c (h := hm) (pts := (hPts a1 a2 e1 e2 c1 c2)) (tris := (triNew ((0 : Nat) : Int) ((1 : Nat) : Int) ((2 : Nat) : Int))) (t := ⟨((0 : Nat) : Int), ((1 : Nat) : Int), ((2 : Nat) : Int), 1, 2, 3, false, false, false⟩) hP (by decide) rfl (by unfold Tr.ok; exact ⟨⟨by decide, Int.ofNat_lt.2 l0⟩, ⟨by decide, Int.ofNat_lt.2 l1⟩, ⟨by decide, Int.ofNat_lt.2 l2⟩⟩) (tm_p a1 a2)) (fun r h => .tail _ (frz_mesh r h)) ?_
      refine LJ_y rfl rfl (YJ_not rfl) ?_
      refine LJ_y rfl rfl (YJ_pickF rfl rfl) ?_
      refine LJ_y rfl rfl (YJ_move rfl) ?_
      refine LJ_bool (c := false) (congrArg not (decide_eq_true hv0)) ?_
      first | refine LJ_y rfl rfl (YJ_loadL rfl tyi_28 (by repeat first | exact .head _ | apply List.Mem.tail) rfl) ?_ | refine LJ_y rfl rfl (YJ_loadFact rfl tyi_28 (by repeat first | exact .head _ | apply List.Mem.tail) rfl) ?_
      refine LJ_y rfl rfl (YJ_move rfl) ?_
      first | refine LJ_y rfl rfl (YJ_loadN (vs := [_, _]) rfl tyi_23 (by repeat first | exact .head _ | apply List.Mem.tail) rfl rfl) ?_ | refine LJ_y rfl rfl (YJ_loadFactN (vs := [_, _]) rfl tyi_23 (by repeat first | exact .head _ | apply List.Mem.tail) rfl rfl) ?_
      refine LJ_call0 rfl rfl rfl rfl rfl (holds_c (h := hm) (pts := (hPts a1 a2 e1 e2 c1 c2)) (tris := (triNew ((0 : Nat) : Int) ((1 : Nat) : Int) ((2 : Nat) : Int))) (t := ⟨((0 : Nat) : Int), ((1 : Nat) : Int), ((2 : Nat) : Int), 1, 2, 3, false, false, false⟩) hP (by decide) rfl (by unfold Tr.ok; exact ⟨⟨by decide, Int.ofNat_lt.2 l0⟩, ⟨by decide, Int.ofNat_lt.2 l1⟩, ⟨by decide, Int.ofNat_lt.2 l2⟩⟩) (tm_p e1 e2)) (fun r h => .tail _ (frz_mesh r h)) ?_
      refine LJ_y rfl rfl (YJ_not rfl) ?_
      refine LJ_y rfl rfl (YJ_pickF rfl rfl) ?_
      refine LJ_y rfl rfl (YJ_move rfl) ?_
      refine LJ_bool (c := false) (congrArg not (decide_eq_true hv1)) ?_
      first | refine LJ_y rfl rfl (YJ_loadL rfl tyi_28 (by repeat first | exact .head _ | apply List.Mem.tail) rfl) ?_ | refine LJ_y rfl rfl (YJ_loadFact rfl tyi_28 (by repeat first | exact .head _ | apply List.Mem.tail) rfl) ?_
      refine LJ_y rfl rfl (YJ_move rfl) ?_
      first | refine LJ_y rfl rfl (YJ_loadN (vs := [_, _]) rfl tyi_23 (by repeat first | exact .head _ | apply List.Mem.tail) rfl rfl) ?_ | refine LJ_y rfl rfl (YJ_loadFactN (vs := [_, _]) rfl tyi_23 (by repeat first | exact .head _ | apply List.Mem.tail) rfl rfl) ?_
      refine LJ_call0 rfl rfl rfl rfl rfl (holds_c (h := hm) (pts := (hPts a1 a2 e1 e2 c1 c2)) (tris := (triNew ((0 : Nat) : Int) ((1 : Nat) : Int) ((2 : Nat) : Int))) (t := ⟨((0 : Nat) : Int), ((1 : Nat) : Int), ((2 : Nat) : Int), 1, 2, 3, false, false, false⟩) hP (by decide) rfl (by unfold Tr.ok; exact ⟨⟨by decide, Int.ofNat_lt.2 l0⟩, ⟨by decide, Int.ofNat_lt.2 l1⟩, ⟨by decide, Int.ofNat_lt.2 l2⟩⟩) (tm_p c1 c2)) (fun r h => .tail _ (frz_mesh r h)) ?_
      refine LJ_y rfl rfl (YJ_not rfl) ?_
      refine LJ_y rfl rfl (YJ_pickF rfl rfl) ?_
      refine LJ_nil ?_
      refine QJ_thenR (by repeat with_reducible first | exact no_round | exact no_begin | apply no_then | apply no_block) ?_
      refine RJ_condF2 rfl (congrArg not (decide_eq_true hv2)) ?_
      refine RJ_skip ?_
      refine QJ_in_normal ?_
      refine QJ_again (μ1 := [_, _, _, _, _]) (μ2 := [_, _, _, _]) (φ1 := []) (permI [3, 4, 4, 4, 4, 4] rfl) (fun _ h => nomatch h) ?_
      exact .inl ⟨rfl, (), trivial, rfl, rfl⟩
  · intro D0 iR hI
    show QJ _ _ _ _ (defR D0 :: _ :: _ :: _ :: _ :: _) _
    refine QJ_in_normal ?_
    refine QJ_then ?_
    refine CJ_seq ?_
    refine CJ_regD mix (by kernel_rfl) (fun _ _ _ _ _ h => h) (selR [0, 2, 3, 4, 5, 6, 7, 8, 9, 10, 11] _) _ (selR_sub _ _) (fun _ h => h) ?_
    first | refine AJ_y 0 rfl (by kernel_rfl) (by kernel_rfl) rfl rfl (YJ_loadL rfl tyi_28 (by repeat first | exact .head _ | apply List.Mem.tail) rfl) ?_ | refine AJ_y 0 rfl (by kernel_rfl) (by kernel_rfl) rfl rfl (YJ_loadFact rfl tyi_28 (by repeat first | exact .head _ | apply List.Mem.tail) rfl) ?_
    first | refine AJ_y 1 rfl (by kernel_rfl) (by kernel_rfl) rfl rfl (YJ_loadN (vs := [_, _]) rfl tyi_23 (by repeat first | exact .head _ | apply List.Mem.tail) rfl rfl) ?_ | refine AJ_y 1 rfl (by kernel_rfl) (by kernel_rfl) rfl rfl (YJ_loadFactN (vs := [_, _]) rfl tyi_23 (by repeat first | exact .head _ | apply List.Mem.tail) rfl rfl) ?_
    first | refine AJ_y 2 rfl (by kernel_rfl) (by kernel_rfl) rfl rfl (YJ_loadL rfl tyi_28 (by repeat first | exact .head _ | apply List.Mem.tail) rfl) ?_ | refine AJ_y 2 rfl (by kernel_rfl) (by kernel_rfl) rfl rfl (YJ_loadFact rfl tyi_28 (by repeat first | exact .head _ | apply List.Mem.tail) rfl) ?_
    first | refine AJ_y 3 rfl (by kernel_rfl) (by kernel_rfl) rfl rfl (YJ_loadN (vs := [_, _]) rfl tyi_23 (by repeat first | exact .head _ | apply List.Mem.tail) rfl rfl) ?_ | refine AJ_y 3 rfl (by kernel_rfl) (by kernel_rfl) rfl rfl (YJ_loadFactN (vs := [_, _]) rfl tyi_23 (by repeat first | exact .head _ | apply List.Mem.tail) rfl rfl) ?_
    refine AJ_call0 4 rfl (by kernel_rfl) rfl rfl rfl rfl rfl (look_c (h := hm) hP hT (by decide) (tm_p q1 q2)) (fun r h => .tail _ (frz_mesh r h)) ?_
    refine AJ_call0 5 rfl (by kernel_rfl) rfl rfl rfl rfl rfl (rgt_c (h := hm) hP hT hG (by decide) (tm_p q1 q2)) (fun r h => .tail _ (frz_mesh r h)) ?_
    refine AJ_store (cs' := #[_]) (μ' := [_, _, _, _, _, _, _, _, _, _, _, _]) 6 1 rfl (by kernel_rfl) rfl rfl rfl rfl tyi_4 rfl (Nat.le_of_ble_eq_true rfl) rfl rfl rfl (fun _ => AllIn.sub (And.intro (by repeat first | exact .head _ | apply List.Mem.tail) (And.intro (by repeat first | exact .head _ | apply List.Mem.tail) (And.intro (by repeat first | exact .head _ | apply List.Mem.tail) (And.intro (by repeat first | exact .head _ | apply List.Mem.tail) (And.intro (by repeat first | exact .head _ | apply List.Mem.tail) (And.intro (by repeat first | exact .head _ | apply List.Mem.tail) (And.intro (by repeat first | exact .head _ | apply List.Mem.tail) (And.intro (by repeat first | exact .head _ | apply List.Mem.tail) (And.intro (by repeat first | exact .head _ | apply List.Mem.tail) (And.intro (by repeat first | exact .head _ | apply List.Mem.tail) (And.intro (by repeat first | exact .head _ | apply List.Mem.tail) (trivial))))))))))))) ?_
    refine AJ_done (by kernel_rfl) ?_
    refine QJ_then ?_
    refine CJ_ret ?_
    refine QJ_finM (.inl rfl) [D0] rfl (μ' := []) (μr := [_, _, _, _, _, _, _, _, _, _, _]) (φ' := []) (res_cell1 rfl rfl (by repeat first | exact .head _ | apply List.Mem.tail) tyi_4) (permI [] rfl) (fun _ h => nomatch h) ?_
    exact ⟨congrArg Value.bool (new_right (by decide) (by decide) (by decide) hD), rfl, rfl⟩
  · exact fun _ _ _ _ _ h => h.elim

set_option maxRecDepth 100000 in
set_option maxHeartbeats 8000000 in
theorem wholds_neg {a1 a2 e1 e2 c1 c2 q1 q2 : Int} (hA : pA (hPts a1 a2 e1 e2 c1 c2) 0 1 2 < 0) : Tri Try.prog 3 [.agg #[.int .i64 a1, .int .i64 a2, .int .i64 e1, .int .i64 e2, .int .i64 c1, .int .i64 c2], ptv q1 q2] [] [] (Ret0 (.bool true)) := by
  refine Tri_ofM (N := 111) Try.func3 rfl ent_3 rfl rfl ?_
  intro w0 S0 T0
  show CJ _ _ _ [(0, _), (1, _)] _ _
  have hP := hPts_ok a1 a2 e1 e2 c1 c2
  have ll : (hPts a1 a2 e1 e2 c1 c2).length ≤ 100000 := show 3 ≤ 100000 by decide
  have l0 : 0 < (hPts a1 a2 e1 e2 c1 c2).length := show 0 < 3 by decide
  have l1 : 1 < (hPts a1 a2 e1 e2 c1 c2).length := show 1 < 3 by decide
  have l2 : 2 < (hPts a1 a2 e1 e2 c1 c2).length := show 2 < 3 by decide
  have hD : 0 < A2 (ptAt (hPts a1 a2 e1 e2 c1 c2) ((0 : Nat) : Int)).1 (ptAt (hPts a1 a2 e1 e2 c1 c2) ((0 : Nat) : Int)).2 (ptAt (hPts a1 a2 e1 e2 c1 c2) ((2 : Nat) : Int)).1 (ptAt (hPts a1 a2 e1 e2 c1 c2) ((2 : Nat) : Int)).2 (ptAt (hPts a1 a2 e1 e2 c1 c2) ((1 : Nat) : Int)).1 (ptAt (hPts a1 a2 e1 e2 c1 c2) ((1 : Nat) : Int)).2 := by
    have := A2_flip (tm a1) (tm a2) (tm e1) (tm e2) (tm c1) (tm c2)
    have h2 : A2 (tm a1) (tm a2) (tm e1) (tm e2) (tm c1) (tm c2) < 0 := hA
    show 0 < A2 (tm a1) (tm a2) (tm c1) (tm c2) (tm e1) (tm e2)
    omega
  have hT := triNew_ok (pts := (hPts a1 a2 e1 e2 c1 c2)) (a := 0) (b := 2) (c := 1) l0 l2 l1
  have hG := triNew_g (pts := (hPts a1 a2 e1 e2 c1 c2)) (a := 0) (b := 2) (c := 1) l0 l2 l1
  obtain ⟨hv0, hv1, hv2⟩ := hold_vert (n0 := 1) (n1 := 2) (n2 := 3) (f0 := false) (f1 := false) (f2 := false) hD
  have hin := hold_in (pts := (hPts a1 a2 e1 e2 c1 c2)) (a := ((0 : Nat) : Int)) (b := ((2 : Nat) : Int)) (c := ((1 : Nat) : Int)) (n0 := 1) (n1 := 2) (n2 := 3) (f0 := false) (f1 := false) (f2 := false) (p1 := tm q1) (p2 := tm q2)
  refine CJ_seq ?_
  refine CJ_reg ?_
  refine LJ_box (cs := #[_, _, _, _, _, _]) rfl rfl rfl rfl ?_
  intro b1
  refine LJ_box (cs := #[_, _]) rfl rfl rfl rfl ?_
  intro b2
  refine LJ_alloc (cs := #[_]) rfl rfl zer_4 rfl ?_
  intro b3
  refine LJ_nil ?_
  refine QJ_then ?_
  refine CJ_seq ?_
  refine CJ_seq ?_
  refine CJ_reg ?_
  refine LJ_call0 rfl rfl rfl rfl rfl fit10_c (fun _ h => nomatch h) ?_
  refine LJ_y rfl rfl (YJ_not rfl) ?_
  refine LJ_nil ?_
  refine QJ_then ?_
  refine CJ_condF rfl ?_
  refine CJ_skip ?_
  refine QJ_then ?_
  refine CJ_seq ?_
  refine CJ_newRow 23 2 ?_
  refine CJ_reg ?_
  refine LJ_alloc (cs := #[_]) rfl rfl zer_26 rfl ?_
  intro b4
  refine LJ_nil ?_
  refine QJ_then ?_
  refine CJ_seq ?_
  refine CJ_seq ?_
  refine CJ_reg ?_
  first | refine LJ_y rfl rfl (YJ_loadN (vs := [_, _, _, _, _, _]) rfl tyi_24 (by repeat first | exact .head _ | apply List.Mem.tail) rfl rfl) ?_ | refine LJ_y rfl rfl (YJ_loadFactN (vs := [_, _, _, _, _, _]) rfl tyi_24 (by repeat first | exact .head _ | apply List.Mem.tail) rfl rfl) ?_
  refine LJ_y rfl rfl (YJ_move rfl) ?_
  refine LJ_nil ?_
  refine QJ_then ?_
  refine CJ_block ?_
  refine CJ_loopN 4 ?_
  refine CN_succ ?_
  refine CJ_seq ?_
  refine CJ_reg ?_
  refine LJ_y rfl rfl (YJ_bin rfl rfl rfl) ?_
  refine LJ_nil ?_
  refine QJ_then ?_
  refine CJ_seq ?_
  refine CJ_condT rfl ?_
  refine CJ_skip ?_
  refine QJ_then ?_
  refine CJ_seq ?_
  refine CJ_block ?_
  refine CJ_seq ?_
  refine CJ_reg ?_
  refine LJ_y rfl rfl (YJ_indexN (vs := [_, _]) rfl rfl arrt_24 tyi_23 (by omega) (by omega) rfl) ?_
  refine LJ_alloc (cs := #[_, _]) rfl rfl zer_23 rfl ?_
  intro b5
  refine LJ_store (cs' := #[_, _]) (μ' := [_, _, _, _, _, _]) 0 rfl rfl rfl rfl tyi_23 rfl (Nat.le_of_ble_eq_true rfl) rfl rfl rfl ?_
  refine LJ_nil ?_
  refine QJ_then ?_
  refine CJ_regM mix (by kernel_rfl) (fun _ _ _ _ _ h => h) [[], [5], [4, 5], [], [], []] ?_
  first | refine BJ_l 0 1 rfl (by kernel_rfl) (by kernel_rfl) (by kernel_rfl) rfl (by kernel_rfl) (by repeat first | exact .head _ | apply List.Mem.tail) rfl rfl (YJ_loadL rfl tyi_26 (by repeat first | exact .head _ | apply List.Mem.tail) rfl) ?_ | refine BJ_l 0 1 rfl (by kernel_rfl) (by kernel_rfl) (by kernel_rfl) rfl (by kernel_rfl) (by repeat first | exact .head _ | apply List.Mem.tail) rfl rfl (YJ_loadFact rfl tyi_26 (by repeat first | exact .head _ | apply List.Mem.tail) rfl) ?_
  first | refine BJ_l 1 0 rfl (by kernel_rfl) (by kernel_rfl) (by kernel_rfl) rfl (by kernel_rfl) (by repeat first | exact .head _ | apply List.Mem.tail) rfl rfl (YJ_loadN (vs := [_, _]) rfl tyi_23 (by repeat first | exact .head _ | apply List.Mem.tail) rfl rfl) ?_ | refine BJ_l 1 0 rfl (by kernel_rfl) (by kernel_rfl) (by kernel_rfl) rfl (by kernel_rfl) (by repeat first | exact .head _ | apply List.Mem.tail) rfl rfl (YJ_loadFactN (vs := [_, _]) rfl tyi_23 (by repeat first | exact .head _ | apply List.Mem.tail) rfl rfl) ?_
  refine BJ_call0 2 rfl (by kernel_rfl) rfl rfl rfl rfl rfl (And.intro (.inr (by repeat first | exact .head _ | apply List.Mem.tail)) (And.intro (.inr (by repeat first | exact .head _ | apply List.Mem.tail)) (And.intro (.inr (by repeat first | exact .head _ | apply List.Mem.tail)) (And.intro (.inr (by repeat first | exact .head _ | apply List.Mem.tail)) (And.intro (.inr (by repeat first | exact .head _ | apply List.Mem.tail)) (And.intro (.inr (by repeat first | exact .head _ | apply List.Mem.tail)) (trivial))))))) (tame_c) (fun _ h => nomatch h) ?_
  refine BJ_buildSlice (vs := [_]) (cs := [_, _]) 3 rfl (by kernel_rfl) rfl rfl elt_26 zer_23 (by decide) (by decide) rfl rfl rfl rfl rfl (fun b => (And.intro (.inr (by repeat first | exact .head _ | apply List.Mem.tail)) (And.intro (.inr (by repeat first | exact .head _ | apply List.Mem.tail)) (And.intro (.inr (by repeat first | exact .head _ | apply List.Mem.tail)) (And.intro (.inr (by repeat first | exact .head _ | apply List.Mem.tail)) (And.intro (.inr (by repeat first | exact .head _ | apply List.Mem.tail)) (And.intro (.inr (by repeat first | exact .head _ | apply List.Mem.tail)) (trivial)))))))) ?_
  intro b6
  refine BJ_append 4 3 rfl (by kernel_rfl) rfl rfl elt_26 zer_23 rfl rfl rfl rfl (Rd_own (by repeat first | exact .head _ | apply List.Mem.tail)) rfl rfl (by omega) (by omega) (by decide) rfl (fun _ _ => (And.intro (.inr (by repeat first | exact .head _ | apply List.Mem.tail)) (And.intro (.inr (by repeat first | exact .head _ | apply List.Mem.tail)) (And.intro (.inl rfl) (And.intro (.inr (by repeat first | exact .head _ | apply List.Mem.tail)) (And.intro (.inr (by repeat first | exact .head _ | apply List.Mem.tail)) (And.intro (.inr (by repeat first | exact .head _ | apply List.Mem.tail)) (trivial)))))))) ?_
  intro A26 c26
  show BJ _ _ _ _ _ _ _ _ (_ :: _ :: _ :: _ :: _ :: _ :: _ :: _) _
  refine BJ_store (cs' := #[_]) (μ' := [_, _, _, _, _, _, _]) 5 2 rfl (by kernel_rfl) rfl rfl rfl rfl tyi_26 rfl (Nat.le_of_ble_eq_true rfl) rfl rfl rfl (And.intro (.inr (by repeat first | exact .head _ | apply List.Mem.tail)) (And.intro (.inl rfl) (And.intro (.inl rfl) (And.intro (.inr (by repeat first | exact .head _ | apply List.Mem.tail)) (And.intro (.inr (by repeat first | exact .head _ | apply List.Mem.tail)) (And.intro (.inr (by repeat first | exact .head _ | apply List.Mem.tail)) (trivial))))))) ?_
  refine BJ_done (by kernel_rfl) ?_
  refine QJ_in_normal ?_
  refine QJ_then ?_
  refine CJ_reg ?_
  first | refine LJ_y rfl rfl (YJ_bin rfl rfl (iop_add (by omega))) ?_ | refine LJ_y rfl rfl (YJ_bin rfl rfl rfl) ?_
  refine LJ_y rfl rfl (YJ_move rfl) ?_
  refine LJ_nil ?_
  refine QJ_thenN ?_
  refine CN_succ ?_
  refine CJ_seq ?_
  refine CJ_reg ?_
  refine LJ_y rfl rfl (YJ_bin rfl rfl rfl) ?_
  refine LJ_nil ?_
  refine QJ_then ?_
  refine CJ_seq ?_
  refine CJ_condT rfl ?_
  refine CJ_skip ?_
  refine QJ_then ?_
  refine CJ_seq ?_
  refine CJ_block ?_
  refine CJ_seq ?_
  refine CJ_reg ?_
  refine LJ_y rfl rfl (YJ_indexN (vs := [_, _]) rfl rfl arrt_24 tyi_23 (by omega) (by omega) rfl) ?_
  refine LJ_alloc (cs := #[_, _]) rfl rfl zer_23 rfl ?_
  intro b7
  refine LJ_store (cs' := #[_, _]) (μ' := [_, _, _, _, _, _, _, _]) 0 rfl rfl rfl rfl tyi_23 rfl (Nat.le_of_ble_eq_true rfl) rfl rfl rfl ?_
  refine LJ_nil ?_
  refine QJ_then ?_
  refine CJ_regM mix (by kernel_rfl) (fun _ _ _ _ _ h => h) [[], [], [], [5], [4, 5], [], [], []] ?_
  first | refine BJ_l 0 3 rfl (by kernel_rfl) (by kernel_rfl) (by kernel_rfl) rfl (by kernel_rfl) (by repeat first | exact .head _ | apply List.Mem.tail) rfl rfl (YJ_loadL rfl tyi_26 (by repeat first | exact .head _ | apply List.Mem.tail) rfl) ?_ | refine BJ_l 0 3 rfl (by kernel_rfl) (by kernel_rfl) (by kernel_rfl) rfl (by kernel_rfl) (by repeat first | exact .head _ | apply List.Mem.tail) rfl rfl (YJ_loadFact rfl tyi_26 (by repeat first | exact .head _ | apply List.Mem.tail) rfl) ?_
  first | refine BJ_l 1 0 rfl (by kernel_rfl) (by kernel_rfl) (by kernel_rfl) rfl (by kernel_rfl) (by repeat first | exact .head _ | apply List.Mem.tail) rfl rfl (YJ_loadN (vs := [_, _]) rfl tyi_23 (by repeat first | exact .head _ | apply List.Mem.tail) rfl rfl) ?_ | refine BJ_l 1 0 rfl (by kernel_rfl) (by kernel_rfl) (by kernel_rfl) rfl (by kernel_rfl) (by repeat first | exact .head _ | apply List.Mem.tail) rfl rfl (YJ_loadFactN (vs := [_, _]) rfl tyi_23 (by repeat first | exact .head _ | apply List.Mem.tail) rfl rfl) ?_
  refine BJ_call0 2 rfl (by kernel_rfl) rfl rfl rfl rfl rfl (And.intro (.inr (by repeat first | exact .head _ | apply List.Mem.tail)) (And.intro (.inr (by repeat first | exact .head _ | apply List.Mem.tail)) (And.intro (.inr (by repeat first | exact .head _ | apply List.Mem.tail)) (And.intro (.inr (by repeat first | exact .head _ | apply List.Mem.tail)) (And.intro (.inr (by repeat first | exact .head _ | apply List.Mem.tail)) (And.intro (.inr (by repeat first | exact .head _ | apply List.Mem.tail)) (And.intro (.inr (by repeat first | exact .head _ | apply List.Mem.tail)) (And.intro (.inr (by repeat first | exact .head _ | apply List.Mem.tail)) (trivial))))))))) (tame_c) (fun _ h => nomatch h) ?_
  refine BJ_buildSlice (vs := [_]) (cs := [_, _]) 3 rfl (by kernel_rfl) rfl rfl elt_26 zer_23 (by decide) (by decide) rfl rfl rfl rfl rfl (fun b => (And.intro (.inr (by repeat first | exact .head _ | apply List.Mem.tail)) (And.intro (.inr (by repeat first | exact .head _ | apply List.Mem.tail)) (And.intro (.inr (by repeat first | exact .head _ | apply List.Mem.tail)) (And.intro (.inr (by repeat first | exact .head _ | apply List.Mem.tail)) (And.intro (.inr (by repeat first | exact .head _ | apply List.Mem.tail)) (And.intro (.inr (by repeat first | exact .head _ | apply List.Mem.tail)) (And.intro (.inr (by repeat first | exact .head _ | apply List.Mem.tail)) (And.intro (.inr (by repeat first | exact .head _ | apply List.Mem.tail)) (trivial)))))))))) ?_
  intro b8
  refine BJ_append 4 5 rfl (by kernel_rfl) rfl rfl elt_26 zer_23 rfl rfl rfl rfl (Rd_own (by repeat first | exact .head _ | apply List.Mem.tail)) rfl rfl (by omega) (by omega) (by decide) rfl (fun _ _ => (And.intro (.inr (by repeat first | exact .head _ | apply List.Mem.tail)) (And.intro (.inr (by repeat first | exact .head _ | apply List.Mem.tail)) (And.intro (.inr (by repeat first | exact .head _ | apply List.Mem.tail)) (And.intro (.inr (by repeat first | exact .head _ | apply List.Mem.tail)) (And.intro (.inl rfl) (And.intro (.inr (by repeat first | exact .head _ | apply List.Mem.tail)) (And.intro (.inr (by repeat first | exact .head _ | apply List.Mem.tail)) (And.intro (.inr (by repeat first | exact .head _ | apply List.Mem.tail)) (trivial)))))))))) ?_
  intro A26 c26
  show BJ _ _ _ _ _ _ _ _ (_ :: _ :: _ :: _ :: _ :: _ :: _ :: _ :: _ :: _) _
  refine BJ_store (cs' := #[_]) (μ' := [_, _, _, _, _, _, _, _, _]) 5 4 rfl (by kernel_rfl) rfl rfl rfl rfl tyi_26 rfl (Nat.le_of_ble_eq_true rfl) rfl rfl rfl (And.intro (.inr (by repeat first | exact .head _ | apply List.Mem.tail)) (And.intro (.inr (by repeat first | exact .head _ | apply List.Mem.tail)) (And.intro (.inr (by repeat first | exact .head _ | apply List.Mem.tail)) (And.intro (.inl rfl) (And.intro (.inl rfl) (And.intro (.inr (by repeat first | exact .head _ | apply List.Mem.tail)) (And.intro (.inr (by repeat first | exact .head _ | apply List.Mem.tail)) (And.intro (.inr (by repeat first | exact .head _ | apply List.Mem.tail)) (trivial))))))))) ?_
  refine BJ_done (by kernel_rfl) ?_
  refine QJ_in_normal ?_
  refine QJ_then ?_
  refine CJ_reg ?_
  first | refine LJ_y rfl rfl (YJ_bin rfl rfl (iop_add (by omega))) ?_ | refine LJ_y rfl rfl (YJ_bin rfl rfl rfl) ?_
  refine LJ_y rfl rfl (YJ_move rfl) ?_
  refine LJ_nil ?_
  refine QJ_thenN ?_
  refine CN_succ ?_
  refine CJ_seq ?_
  refine CJ_reg ?_
  refine LJ_y rfl rfl (YJ_bin rfl rfl rfl) ?_
  refine LJ_nil ?_
  refine QJ_then ?_
  refine CJ_seq ?_
  refine CJ_condT rfl ?_
  refine CJ_skip ?_
  refine QJ_then ?_
  refine CJ_seq ?_
  refine CJ_block ?_
  refine CJ_seq ?_
  refine CJ_reg ?_
  refine LJ_y rfl rfl (YJ_indexN (vs := [_, _]) rfl rfl arrt_24 tyi_23 (by omega) (by omega) rfl) ?_
  refine LJ_alloc (cs := #[_, _]) rfl rfl zer_23 rfl ?_
  intro b9
  refine LJ_store (cs' := #[_, _]) (μ' := [_, _, _, _, _, _, _, _, _, _]) 0 rfl rfl rfl rfl tyi_23 rfl (Nat.le_of_ble_eq_true rfl) rfl rfl rfl ?_
  refine LJ_nil ?_
  refine QJ_then ?_
  refine CJ_regM mix (by kernel_rfl) (fun _ _ _ _ _ h => h) [[], [], [], [], [], [5], [4, 5], [], [], []] ?_
  first | refine BJ_l 0 5 rfl (by kernel_rfl) (by kernel_rfl) (by kernel_rfl) rfl (by kernel_rfl) (by repeat first | exact .head _ | apply List.Mem.tail) rfl rfl (YJ_loadL rfl tyi_26 (by repeat first | exact .head _ | apply List.Mem.tail) rfl) ?_ | refine BJ_l 0 5 rfl (by kernel_rfl) (by kernel_rfl) (by kernel_rfl) rfl (by kernel_rfl) (by repeat first | exact .head _ | apply List.Mem.tail) rfl rfl (YJ_loadFact rfl tyi_26 (by repeat first | exact .head _ | apply List.Mem.tail) rfl) ?_
  first | refine BJ_l 1 0 rfl (by kernel_rfl) (by kernel_rfl) (by kernel_rfl) rfl (by kernel_rfl) (by repeat first | exact .head _ | apply List.Mem.tail) rfl rfl (YJ_loadN (vs := [_, _]) rfl tyi_23 (by repeat first | exact .head _ | apply List.Mem.tail) rfl rfl) ?_ | refine BJ_l 1 0 rfl (by kernel_rfl) (by kernel_rfl) (by kernel_rfl) rfl (by kernel_rfl) (by repeat first | exact .head _ | apply List.Mem.tail) rfl rfl (YJ_loadFactN (vs := [_, _]) rfl tyi_23 (by repeat first | exact .head _ | apply List.Mem.tail) rfl rfl) ?_
  refine BJ_call0 2 rfl (by kernel_rfl) rfl rfl rfl rfl rfl (And.intro (.inr (by repeat first | exact .head _ | apply List.Mem.tail)) (And.intro (.inr (by repeat first | exact .head _ | apply List.Mem.tail)) (And.intro (.inr (by repeat first | exact .head _ | apply List.Mem.tail)) (And.intro (.inr (by repeat first | exact .head _ | apply List.Mem.tail)) (And.intro (.inr (by repeat first | exact .head _ | apply List.Mem.tail)) (And.intro (.inr (by repeat first | exact .head _ | apply List.Mem.tail)) (And.intro (.inr (by repeat first | exact .head _ | apply List.Mem.tail)) (And.intro (.inr (by repeat first | exact .head _ | apply List.Mem.tail)) (And.intro (.inr (by repeat first | exact .head _ | apply List.Mem.tail)) (And.intro (.inr (by repeat first | exact .head _ | apply List.Mem.tail)) (trivial))))))))))) (tame_c) (fun _ h => nomatch h) ?_
  refine BJ_buildSlice (vs := [_]) (cs := [_, _]) 3 rfl (by kernel_rfl) rfl rfl elt_26 zer_23 (by decide) (by decide) rfl rfl rfl rfl rfl (fun b => (And.intro (.inr (by repeat first | exact .head _ | apply List.Mem.tail)) (And.intro (.inr (by repeat first | exact .head _ | apply List.Mem.tail)) (And.intro (.inr (by repeat first | exact .head _ | apply List.Mem.tail)) (And.intro (.inr (by repeat first | exact .head _ | apply List.Mem.tail)) (And.intro (.inr (by repeat first | exact .head _ | apply List.Mem.tail)) (And.intro (.inr (by repeat first | exact .head _ | apply List.Mem.tail)) (And.intro (.inr (by repeat first | exact .head _ | apply List.Mem.tail)) (And.intro (.inr (by repeat first | exact .head _ | apply List.Mem.tail)) (And.intro (.inr (by repeat first | exact .head _ | apply List.Mem.tail)) (And.intro (.inr (by repeat first | exact .head _ | apply List.Mem.tail)) (trivial)))))))))))) ?_
  intro b10
  refine BJ_append 4 7 rfl (by kernel_rfl) rfl rfl elt_26 zer_23 rfl rfl rfl rfl (Rd_own (by repeat first | exact .head _ | apply List.Mem.tail)) rfl rfl (by omega) (by omega) (by decide) rfl (fun _ _ => (And.intro (.inr (by repeat first | exact .head _ | apply List.Mem.tail)) (And.intro (.inr (by repeat first | exact .head _ | apply List.Mem.tail)) (And.intro (.inr (by repeat first | exact .head _ | apply List.Mem.tail)) (And.intro (.inr (by repeat first | exact .head _ | apply List.Mem.tail)) (And.intro (.inr (by repeat first | exact .head _ | apply List.Mem.tail)) (And.intro (.inr (by repeat first | exact .head _ | apply List.Mem.tail)) (And.intro (.inl rfl) (And.intro (.inr (by repeat first | exact .head _ | apply List.Mem.tail)) (And.intro (.inr (by repeat first | exact .head _ | apply List.Mem.tail)) (And.intro (.inr (by repeat first | exact .head _ | apply List.Mem.tail)) (trivial)))))))))))) ?_
  intro A26 c26
  show BJ _ _ _ _ _ _ _ _ (_ :: _ :: _ :: _ :: _ :: _ :: _ :: _ :: _ :: _ :: _ :: _) _
  refine BJ_store (cs' := #[_]) (μ' := [_, _, _, _, _, _, _, _, _, _, _]) 5 6 rfl (by kernel_rfl) rfl rfl rfl rfl tyi_26 rfl (Nat.le_of_ble_eq_true rfl) rfl rfl rfl (And.intro (.inr (by repeat first | exact .head _ | apply List.Mem.tail)) (And.intro (.inr (by repeat first | exact .head _ | apply List.Mem.tail)) (And.intro (.inr (by repeat first | exact .head _ | apply List.Mem.tail)) (And.intro (.inr (by repeat first | exact .head _ | apply List.Mem.tail)) (And.intro (.inr (by repeat first | exact .head _ | apply List.Mem.tail)) (And.intro (.inl rfl) (And.intro (.inl rfl) (And.intro (.inr (by repeat first | exact .head _ | apply List.Mem.tail)) (And.intro (.inr (by repeat first | exact .head _ | apply List.Mem.tail)) (And.intro (.inr (by repeat first | exact .head _ | apply List.Mem.tail)) (trivial))))))))))) ?_
  refine BJ_done (by kernel_rfl) ?_
  refine QJ_in_normal ?_
  refine QJ_then ?_
  refine CJ_reg ?_
  first | refine LJ_y rfl rfl (YJ_bin rfl rfl (iop_add (by omega))) ?_ | refine LJ_y rfl rfl (YJ_bin rfl rfl rfl) ?_
  refine LJ_y rfl rfl (YJ_move rfl) ?_
  refine LJ_nil ?_
  refine QJ_thenN ?_
  refine CN_succ ?_
  refine CJ_seq ?_
  refine CJ_reg ?_
  refine LJ_y rfl rfl (YJ_bin rfl rfl rfl) ?_
  refine LJ_nil ?_
  refine QJ_then ?_
  refine CJ_seq ?_
  refine CJ_condF rfl ?_
  refine CJ_exit ?_
  refine QJ_then_exit ?_
  refine QJ_then_exit ?_
  refine QJ_in_exit ?_
  refine QJ_then ?_
  refine CJ_seq ?_
  refine CJ_reg ?_
  first | refine LJ_y rfl rfl (YJ_loadN (vs := [_, _]) rfl tyi_23 (by repeat first | exact .head _ | apply List.Mem.tail) rfl rfl) ?_ | refine LJ_y rfl rfl (YJ_loadFactN (vs := [_, _]) rfl tyi_23 (by repeat first | exact .head _ | apply List.Mem.tail) rfl rfl) ?_
  refine LJ_call0 rfl rfl rfl rfl rfl (tame_c) (fun _ h => nomatch h) ?_
  refine LJ_store (cs' := #[_, _]) (μ' := [_, _, _, _, _, _, _, _, _, _, _]) 9 rfl rfl rfl rfl tyi_23 rfl (Nat.le_of_ble_eq_true rfl) rfl rfl rfl ?_
  refine LJ_nil ?_
  refine QJ_then ?_
  refine CJ_seq ?_
  refine CJ_freezeRowK (n' := 3) (xs' := ptCells (hPts a1 a2 e1 e2 c1 c2)) 7 rfl rfl rfl ?_
  show CJ _ _ _ _ (_ :: _ :: _ :: _ :: _ :: _ :: _ :: _ :: _ :: _ :: _) _
  refine CJ_reg ?_
  first | refine LJ_y rfl rfl (YJ_loadL rfl tyi_26 (by repeat first | exact .head _ | apply List.Mem.tail) rfl) ?_ | refine LJ_y rfl rfl (YJ_loadFact rfl tyi_26 (by repeat first | exact .head _ | apply List.Mem.tail) rfl) ?_
  refine LJ_callN rfl rfl rfl rfl rfl (new_neg (pts := (hPts a1 a2 e1 e2 c1 c2)) (a := 0) (b := 1) (c := 2) ll l0 l1 l2 hP hA) (fun r h => by rw [List.mem_singleton] at h; subst h; exact .head _) ?_
  intro Bm _
  refine LJ_freezeMesh (fun hm hmF hmA => ?_)
  refine LJ_y rfl rfl (YJ_move rfl) ?_
  refine LJ_y rfl rfl (YJ_extract rfl rfl) ?_
  refine LJ_y rfl rfl (YJ_extract rfl rfl) ?_
  refine LJ_alloc (cs := #[_]) rfl rfl zer_28 rfl ?_
  intro b11
  refine LJ_store (cs' := #[_]) (μ' := [_, _, _, _, _, _, _, _, _, _, _]) 0 rfl rfl rfl rfl tyi_28 rfl (Nat.le_of_ble_eq_true rfl) rfl rfl rfl ?_
  refine LJ_y rfl rfl (YJ_assign rfl) ?_
  refine LJ_nil ?_
  refine QJ_then ?_
  refine CJ_seq ?_
  refine CJ_seq ?_
  refine CJ_reg ?_
  refine LJ_y rfl rfl (YJ_move rfl) ?_
  refine LJ_y rfl rfl (YJ_not rfl) ?_
  refine LJ_nil ?_
  refine QJ_then ?_
  refine CJ_condF rfl ?_
  refine CJ_skip ?_
  refine QJ_then ?_
  refine CJ_seq ?_
  refine CJ_seq ?_
  refine CJ_reg ?_
  first | refine LJ_y rfl rfl (YJ_loadL rfl tyi_28 (by repeat first | exact .head _ | apply List.Mem.tail) rfl) ?_ | refine LJ_y rfl rfl (YJ_loadFact rfl tyi_28 (by repeat first | exact .head _ | apply List.Mem.tail) rfl) ?_
  refine LJ_callX rfl rfl rfl rfl rfl (all_c (B := Bm)) (fun _ h => nomatch h) ?_
  intro bA _
  refine LJ_nil ?_
  refine QJ_then ?_
  refine CJ_block ?_
  refine CJ_rangeFunc (μr := [_, _, _, _, _, _, _]) rfl (all_it (h := hm) (pts := (hPts a1 a2 e1 e2 c1 c2)) (tris := (triNew ((0 : Nat) : Int) ((2 : Nat) : Int) ((1 : Nat) : Int))) (by decide)) (all_sub (fun r h => frz_mesh r h)) (fun _ => rfl) (by kernel_rfl) (L := { ι := Unit, I := fun _ _ => True, F := fun _ _ => ([cellsR b3 #[.bool false] 4, cellsR b2 #[.int .i64 (tm q1), .int .i64 (tm q2)] 23, cellsR b4 #[.slice A26 3 c26] 26, cellsR b11 #[.pointer (some ⟨Bm, 0, none⟩)] 28], []), κ := Unit, Ix := fun _ _ _ => False, Fx := fun _ _ => ([], []) }) () trivial (permI [8, 8, 7] rfl) (fun _ h => nomatch h) ?_ ?_ ?_
  · intro lR DR fnR tmpsR WR SR TR pre xR iR hpre hI
    obtain ⟨n, t⟩ := xR
    have hx : (n, t) = ((0 : Nat), (⟨((0 : Nat) : Int), ((2 : Nat) : Int), ((1 : Nat) : Int), 1, 2, 3, false, false, false⟩ : Tr)) := by
      rw [triNew_reals] at hpre
      simpa using hpre.subset (List.mem_append_right _ (.head _))
    obtain ⟨rfl, rfl⟩ := Prod.mk.inj hx
    show RJ _ _ _ _ _ ((40, .agg #[.int .i64 ((0 : Nat) : Int), .int .i64 ((2 : Nat) : Int), .int .i64 ((1 : Nat) : Int), .int .i64 1, .int .i64 2, .int .i64 3, .bool false, .bool false, .bool false]) :: (39, .int .i64 ((0 : Nat) : Int)) :: _) (objR lR _ :: defR DR :: _ :: _ :: _ :: _ :: []) _
    refine RJ_seq ?_
    refine RJ_reg (by kernel_rfl) ?_
    refine LJ_y rfl rfl (YJ_assign rfl) ?_
    refine LJ_nil ?_
    refine QJ_thenR (by repeat with_reducible first | exact no_round | exact no_begin | apply no_then | apply no_block) ?_
    refine RJ_reg (by kernel_rfl) ?_
    refine LJ_alloc (cs := #[_, _, _, _, _, _, _, _, _]) rfl rfl zer_37 rfl ?_
    intro b12
    refine LJ_store (cs' := #[_, _, _, _, _, _, _, _, _]) (μ' := [_, _, _, _, _, _, _]) 0 rfl rfl rfl rfl tyi_37 rfl (Nat.le_of_ble_eq_true rfl) rfl (wr_all rfl) rfl ?_
    refine LJ_nil ?_
    refine QJ_begin (μr := [_, _, _, _, _, _]) (permI [1] rfl) ?_
    refine RJ_block ?_
    refine RJ_seq ?_
    refine RJ_regDA mix (by kernel_rfl) (fun _ _ _ _ _ h => h) _ _ (fun _ h => h) (fun _ h => h) (by kernel_rfl) [⟨18, 12, 23, #[.int .i64 0, .int .i64 0]⟩, ⟨19, 13, 23, #[.int .i64 0, .int .i64 0]⟩, ⟨20, 14, 23, #[.int .i64 0, .int .i64 0]⟩] 21 rfl (And.intro ⟨_, _, _, _, rfl, zer_23, rfl⟩ (And.intro ⟨_, _, _, _, rfl, zer_23, rfl⟩ (And.intro ⟨_, _, _, _, rfl, zer_23, rfl⟩ (trivial)))) rfl rfl ?_
    first | refine AA_y 0 rfl (by kernel_rfl) rfl rfl rfl (YJ_loadL rfl tyi_26 (by repeat first | exact .head _ | apply List.Mem.tail) rfl) ?_ | refine AA_y 0 rfl (by kernel_rfl) rfl rfl rfl (YJ_loadFact rfl tyi_26 (by repeat first | exact .head _ | apply List.Mem.tail) rfl) ?_
    first | refine AA_y 1 rfl (by kernel_rfl) rfl rfl rfl (YJ_fieldOwn rfl fld_37_0 rfl) ?_ | refine AA_y 1 rfl (by kernel_rfl) rfl rfl rfl (YJ_fieldAddr rfl fld_37_0) ?_
    first | refine AA_y 2 rfl (by kernel_rfl) rfl rfl rfl (YJ_ixArr rfl rfl arrt_34 (by omega) (by omega) rfl) ?_ | refine AA_y 2 rfl (by kernel_rfl) rfl rfl rfl (YJ_ixArrP rfl rfl arrt_34 (by omega) (by omega)) ?_
    first | refine AA_y 3 rfl (by kernel_rfl) rfl rfl rfl (YJ_loadL rfl tyi_3 (by repeat first | exact .head _ | apply List.Mem.tail) rfl) ?_ | refine AA_y 3 rfl (by kernel_rfl) rfl rfl rfl (YJ_loadFact rfl tyi_3 (by repeat first | exact .head _ | apply List.Mem.tail) rfl) ?_
    first | refine AA_y 4 rfl (by kernel_rfl) rfl rfl rfl (YJ_ixOwn rfl rfl elt_26 (by omega) (by omega)) ?_ | refine AA_y 4 rfl (by kernel_rfl) rfl rfl rfl (YJ_ixFact rfl rfl elt_26 (by repeat first | exact .head _ | apply List.Mem.tail) (by decide) (by omega) (by omega) (by omega)) ?_
    refine AA_y 5 rfl (by kernel_rfl) rfl rfl rfl (YJ_loadFactN (vs := [_, _]) (A := A26) (j := ((0 : Nat) : Int).toNat * 2) (xs := ptCells (hPts a1 a2 e1 e2 c1 c2)) rfl tyi_23 (by repeat first | exact .head _ | apply List.Mem.tail) rfl rfl) ?_
    first | refine AA_y 6 rfl (by kernel_rfl) rfl rfl rfl (YJ_loadL rfl tyi_26 (by repeat first | exact .head _ | apply List.Mem.tail) rfl) ?_ | refine AA_y 6 rfl (by kernel_rfl) rfl rfl rfl (YJ_loadFact rfl tyi_26 (by repeat first | exact .head _ | apply List.Mem.tail) rfl) ?_
    first | refine AA_y 7 rfl (by kernel_rfl) rfl rfl rfl (YJ_fieldOwn rfl fld_37_0 rfl) ?_ | refine AA_y 7 rfl (by kernel_rfl) rfl rfl rfl (YJ_fieldAddr rfl fld_37_0) ?_
    first | refine AA_y 8 rfl (by kernel_rfl) rfl rfl rfl (YJ_ixArr rfl rfl arrt_34 (by omega) (by omega) rfl) ?_ | refine AA_y 8 rfl (by kernel_rfl) rfl rfl rfl (YJ_ixArrP rfl rfl arrt_34 (by omega) (by omega)) ?_
    first | refine AA_y 9 rfl (by kernel_rfl) rfl rfl rfl (YJ_loadL rfl tyi_3 (by repeat first | exact .head _ | apply List.Mem.tail) rfl) ?_ | refine AA_y 9 rfl (by kernel_rfl) rfl rfl rfl (YJ_loadFact rfl tyi_3 (by repeat first | exact .head _ | apply List.Mem.tail) rfl) ?_
    first | refine AA_y 10 rfl (by kernel_rfl) rfl rfl rfl (YJ_ixOwn rfl rfl elt_26 (by omega) (by omega)) ?_ | refine AA_y 10 rfl (by kernel_rfl) rfl rfl rfl (YJ_ixFact rfl rfl elt_26 (by repeat first | exact .head _ | apply List.Mem.tail) (by decide) (by omega) (by omega) (by omega)) ?_
    refine AA_y 11 rfl (by kernel_rfl) rfl rfl rfl (YJ_loadFactN (vs := [_, _]) (A := A26) (j := ((2 : Nat) : Int).toNat * 2) (xs := ptCells (hPts a1 a2 e1 e2 c1 c2)) rfl tyi_23 (by repeat first | exact .head _ | apply List.Mem.tail) rfl rfl) ?_
    first | refine AA_y 12 rfl (by kernel_rfl) rfl rfl rfl (YJ_loadL rfl tyi_26 (by repeat first | exact .head _ | apply List.Mem.tail) rfl) ?_ | refine AA_y 12 rfl (by kernel_rfl) rfl rfl rfl (YJ_loadFact rfl tyi_26 (by repeat first | exact .head _ | apply List.Mem.tail) rfl) ?_
    first | refine AA_y 13 rfl (by kernel_rfl) rfl rfl rfl (YJ_fieldOwn rfl fld_37_0 rfl) ?_ | refine AA_y 13 rfl (by kernel_rfl) rfl rfl rfl (YJ_fieldAddr rfl fld_37_0) ?_
    first | refine AA_y 14 rfl (by kernel_rfl) rfl rfl rfl (YJ_ixArr rfl rfl arrt_34 (by omega) (by omega) rfl) ?_ | refine AA_y 14 rfl (by kernel_rfl) rfl rfl rfl (YJ_ixArrP rfl rfl arrt_34 (by omega) (by omega)) ?_
    first | refine AA_y 15 rfl (by kernel_rfl) rfl rfl rfl (YJ_loadL rfl tyi_3 (by repeat first | exact .head _ | apply List.Mem.tail) rfl) ?_ | refine AA_y 15 rfl (by kernel_rfl) rfl rfl rfl (YJ_loadFact rfl tyi_3 (by repeat first | exact .head _ | apply List.Mem.tail) rfl) ?_
    first | refine AA_y 16 rfl (by kernel_rfl) rfl rfl rfl (YJ_ixOwn rfl rfl elt_26 (by omega) (by omega)) ?_ | refine AA_y 16 rfl (by kernel_rfl) rfl rfl rfl (YJ_ixFact rfl rfl elt_26 (by repeat first | exact .head _ | apply List.Mem.tail) (by decide) (by omega) (by omega) (by omega)) ?_
    refine AA_y 17 rfl (by kernel_rfl) rfl rfl rfl (YJ_loadFactN (vs := [_, _]) (A := A26) (j := ((1 : Nat) : Int).toNat * 2) (xs := ptCells (hPts a1 a2 e1 e2 c1 c2)) rfl tyi_23 (by repeat first | exact .head _ | apply List.Mem.tail) rfl rfl) ?_
    refine AA_end (by kernel_rfl) rfl ?_
    intro bs hbs
    obtain ⟨b13, b14, b15, rfl⟩ := len_3 hbs
    clear hbs
    show AJ _ _ _ _ _ _ _ ((12, .pointer (some ⟨b13, 0, none⟩)) :: (13, .pointer (some ⟨b14, 0, none⟩)) :: (14, .pointer (some ⟨b15, 0, none⟩)) :: _) (cellsR b13 _ _ :: cellsR b14 _ _ :: cellsR b15 _ _ :: _) _
    refine AJ_store (cs' := #[_, _]) (μ' := [_, _, _, _, _, _, _, _, _, _]) 21 0 rfl (by kernel_rfl) rfl rfl rfl rfl tyi_23 rfl (Nat.le_of_ble_eq_true rfl) rfl rfl rfl (fun _ => AllIn.sub (And.intro (by repeat first | exact .head _ | apply List.Mem.tail) (And.intro (by repeat first | exact .head _ | apply List.Mem.tail) (And.intro (by repeat first | exact .head _ | apply List.Mem.tail) (And.intro (by repeat first | exact .head _ | apply List.Mem.tail) (And.intro (by repeat first | exact .head _ | apply List.Mem.tail) (And.intro (by repeat first | exact .head _ | apply List.Mem.tail) (And.intro (by repeat first | exact .head _ | apply List.Mem.tail) (trivial))))))))) ?_
    refine AJ_store (cs' := #[_, _]) (μ' := [_, _, _, _, _, _, _, _, _, _]) 22 1 rfl (by kernel_rfl) rfl rfl rfl rfl tyi_23 rfl (Nat.le_of_ble_eq_true rfl) rfl rfl rfl (fun _ => AllIn.sub (And.intro (by repeat first | exact .head _ | apply List.Mem.tail) (And.intro (by repeat first | exact .head _ | apply List.Mem.tail) (And.intro (by repeat first | exact .head _ | apply List.Mem.tail) (And.intro (by repeat first | exact .head _ | apply List.Mem.tail) (And.intro (by repeat first | exact .head _ | apply List.Mem.tail) (And.intro (by repeat first | exact .head _ | apply List.Mem.tail) (And.intro (by repeat first | exact .head _ | apply List.Mem.tail) (trivial))))))))) ?_
    refine AJ_store (cs' := #[_, _]) (μ' := [_, _, _, _, _, _, _, _, _, _]) 23 2 rfl (by kernel_rfl) rfl rfl rfl rfl tyi_23 rfl (Nat.le_of_ble_eq_true rfl) rfl rfl rfl (fun _ => AllIn.sub (And.intro (by repeat first | exact .head _ | apply List.Mem.tail) (And.intro (by repeat first | exact .head _ | apply List.Mem.tail) (And.intro (by repeat first | exact .head _ | apply List.Mem.tail) (And.intro (by repeat first | exact .head _ | apply List.Mem.tail) (And.intro (by repeat first | exact .head _ | apply List.Mem.tail) (And.intro (by repeat first | exact .head _ | apply List.Mem.tail) (And.intro (by repeat first | exact .head _ | apply List.Mem.tail) (trivial))))))))) ?_
    refine AJ_done (by kernel_rfl) ?_
    refine QJ_thenR (by repeat with_reducible first | exact no_round | exact no_begin | apply no_then | apply no_block) ?_
    refine RJ_seq ?_
    refine RJ_reg (by kernel_rfl) ?_
    first | refine LJ_y rfl rfl (YJ_loadN (vs := [_, _]) rfl tyi_23 (by repeat first | exact .head _ | apply List.Mem.tail) rfl rfl) ?_ | refine LJ_y rfl rfl (YJ_loadFactN (vs := [_, _]) rfl tyi_23 (by repeat first | exact .head _ | apply List.Mem.tail) rfl rfl) ?_
    first | refine LJ_y rfl rfl (YJ_loadN (vs := [_, _]) rfl tyi_23 (by repeat first | exact .head _ | apply List.Mem.tail) rfl rfl) ?_ | refine LJ_y rfl rfl (YJ_loadFactN (vs := [_, _]) rfl tyi_23 (by repeat first | exact .head _ | apply List.Mem.tail) rfl rfl) ?_
    first | refine LJ_y rfl rfl (YJ_loadN (vs := [_, _]) rfl tyi_23 (by repeat first | exact .head _ | apply List.Mem.tail) rfl rfl) ?_ | refine LJ_y rfl rfl (YJ_loadFactN (vs := [_, _]) rfl tyi_23 (by repeat first | exact .head _ | apply List.Mem.tail) rfl rfl) ?_
    refine LJ_call0 rfl rfl rfl rfl rfl (orient_c (tm_p _ _) (tm_p _ _) (tm_p _ _)) (fun _ h => nomatch h) ?_
    refine LJ_y rfl rfl (YJ_bin rfl rfl rfl) ?_
    refine LJ_y rfl rfl (YJ_move rfl) ?_
    refine LJ_boolC (fun h64 => ?_) (fun h64 => ?_)
    · try simp only [decide_eq_true_eq, decide_eq_false_iff_not, Bool.not_eq_true', Bool.not_eq_false', Bool.and_eq_true, Bool.and_eq_false_iff, beq_iff_eq, bne_iff_ne, beq_eq_false_iff_ne, bne_eq_false_iff_eq, ne_eq, decide_eq_decide] at h64
      first | refine LJ_y rfl rfl (YJ_loadN (vs := [_, _]) rfl tyi_23 (by repeat first | exact .head _ | apply List.Mem.tail) rfl rfl) ?_ | refine LJ_y rfl rfl (YJ_loadFactN (vs := [_, _]) rfl tyi_23 (by repeat first | exact .head _ | apply List.Mem.tail) rfl rfl) ?_
      first | refine LJ_y rfl rfl (YJ_loadN (vs := [_, _]) rfl tyi_23 (by repeat first | exact .head _ | apply List.Mem.tail) rfl rfl) ?_ | refine LJ_y rfl rfl (YJ_loadFactN (vs := [_, _]) rfl tyi_23 (by repeat first | exact .head _ | apply List.Mem.tail) rfl rfl) ?_
      first | refine LJ_y rfl rfl (YJ_loadN (vs := [_, _]) rfl tyi_23 (by repeat first | exact .head _ | apply List.Mem.tail) rfl rfl) ?_ | refine LJ_y rfl rfl (YJ_loadFactN (vs := [_, _]) rfl tyi_23 (by repeat first | exact .head _ | apply List.Mem.tail) rfl rfl) ?_
      refine LJ_call0 rfl rfl rfl rfl rfl (orient_c (tm_p _ _) (tm_p _ _) (tm_p _ _)) (fun _ h => nomatch h) ?_
      refine LJ_y rfl rfl (YJ_bin rfl rfl rfl) ?_
      refine LJ_y rfl rfl (YJ_pickT rfl rfl) ?_
      refine LJ_y rfl rfl (YJ_move rfl) ?_
      refine LJ_boolC (fun h71 => ?_) (fun h71 => ?_)
      · try simp only [decide_eq_true_eq, decide_eq_false_iff_not, Bool.not_eq_true', Bool.not_eq_false', Bool.and_eq_true, Bool.and_eq_false_iff, beq_iff_eq, bne_iff_ne, beq_eq_false_iff_ne, bne_eq_false_iff_eq, ne_eq, decide_eq_decide] at h71
        first | refine LJ_y rfl rfl (YJ_loadN (vs := [_, _]) rfl tyi_23 (by repeat first | exact .head _ | apply List.Mem.tail) rfl rfl) ?_ | refine LJ_y rfl rfl (YJ_loadFactN (vs := [_, _]) rfl tyi_23 (by repeat first | exact .head _ | apply List.Mem.tail) rfl rfl) ?_
        first | refine LJ_y rfl rfl (YJ_loadN (vs := [_, _]) rfl tyi_23 (by repeat first | exact .head _ | apply List.Mem.tail) rfl rfl) ?_ | refine LJ_y rfl rfl (YJ_loadFactN (vs := [_, _]) rfl tyi_23 (by repeat first | exact .head _ | apply List.Mem.tail) rfl rfl) ?_
        first | refine LJ_y rfl rfl (YJ_loadN (vs := [_, _]) rfl tyi_23 (by repeat first | exact .head _ | apply List.Mem.tail) rfl rfl) ?_ | refine LJ_y rfl rfl (YJ_loadFactN (vs := [_, _]) rfl tyi_23 (by repeat first | exact .head _ | apply List.Mem.tail) rfl rfl) ?_
        refine LJ_call0 rfl rfl rfl rfl rfl (orient_c (tm_p _ _) (tm_p _ _) (tm_p _ _)) (fun _ h => nomatch h) ?_
        refine LJ_y rfl rfl (YJ_bin rfl rfl rfl) ?_
        refine LJ_y rfl rfl (YJ_pickT rfl rfl) ?_
        refine LJ_y rfl rfl (YJ_assign rfl) ?_
        refine LJ_nil ?_
        refine QJ_thenR (by repeat with_reducible first | exact no_round | exact no_begin | apply no_then | apply no_block) ?_
        refine RJ_seq ?_
        refine RJ_reg (by kernel_rfl) ?_
        first | refine LJ_y rfl rfl (YJ_loadL rfl tyi_28 (by repeat first | exact .head _ | apply List.Mem.tail) rfl) ?_ | refine LJ_y rfl rfl (YJ_loadFact rfl tyi_28 (by repeat first | exact .head _ | apply List.Mem.tail) rfl) ?_
        refine LJ_y rfl rfl (YJ_move rfl) ?_
        first | refine LJ_y rfl rfl (YJ_loadN (vs := [_, _]) rfl tyi_23 (by repeat first | exact .head _ | apply List.Mem.tail) rfl rfl) ?_ | refine LJ_y rfl rfl (YJ_loadFactN (vs := [_, _]) rfl tyi_23 (by repeat first | exact .head _ | apply List.Mem.tail) rfl rfl) ?_
        refine LJ_call0 rfl rfl rfl rfl rfl (holds_c (h := hm) (pts := (hPts a1 a2 e1 e2 c1 c2)) (tris := (triNew ((0 : Nat) : Int) ((2 : Nat) : Int) ((1 : Nat) : Int))) (t := ⟨((0 : Nat) : Int), ((2 : Nat) : Int), ((1 : Nat) : Int), 1, 2, 3, false, false, false⟩) hP (by decide) rfl (by unfold Tr.ok; exact ⟨⟨by decide, Int.ofNat_lt.2 l0⟩, ⟨by decide, Int.ofNat_lt.2 l2⟩, ⟨by decide, Int.ofNat_lt.2 l1⟩⟩) (tm_p q1 q2)) (fun r h => .tail _ (frz_mesh r h)) ?_
        refine LJ_y rfl rfl (YJ_move rfl) ?_
        refine LJ_y rfl rfl (YJ_neb rfl rfl ubool_4) ?_
        refine LJ_y rfl rfl (YJ_move rfl) ?_
        refine LJ_bool (c := false) (ne_dec (hin.trans ⟨fun q => q.2.2, fun q => ⟨h64, h71, q⟩⟩)) ?_
        first | refine LJ_y rfl rfl (YJ_loadL rfl tyi_28 (by repeat first | exact .head _ | apply List.Mem.tail) rfl) ?_ | refine LJ_y rfl rfl (YJ_loadFact rfl tyi_28 (by repeat first | exact .head _ | apply List.Mem.tail) rfl) ?_
        refine LJ_y rfl rfl (YJ_move rfl) ?_
        first | refine LJ_y rfl rfl (YJ_loadN (vs := [_, _]) rfl tyi_23 (by repeat first | exact .head _ | apply List.Mem.tail) rfl rfl) ?_ | refine LJ_y rfl rfl (YJ_loadFactN (vs := [_, _]) rfl tyi_23 (by repeat first | exact .head _ | apply List.Mem.tail) rfl rfl) ?_
        refine LJ_call0 rfl rfl rfl rfl rfl (holds_c (h := hm) (pts := (hPts a1 a2 e1 e2 c1 c2)) (tris := (triNew ((0 : Nat) : Int) ((2 : Nat) : Int) ((1 : Nat) : Int))) (t := ⟨((0 : Nat) : Int), ((2 : Nat) : Int), ((1 : Nat) : Int), 1, 2, 3, false, false, false⟩) hP (by decide) rfl (by unfold Tr.ok; exact ⟨⟨by decide, Int.ofNat_lt.2 l0⟩, ⟨by decide, Int.ofNat_lt.2 l2⟩, ⟨by decide, Int.ofNat_lt.2 l1⟩⟩) (tm_p a1 a2)) (fun r h => .tail _ (frz_mesh r h)) ?_
        refine LJ_y rfl rfl (YJ_not rfl) ?_
        refine LJ_y rfl rfl (YJ_pickF rfl rfl) ?_
        refine LJ_y rfl rfl (YJ_move rfl) ?_
        refine LJ_bool (c := false) (congrArg not (decide_eq_true hv0)) ?_
        first | refine LJ_y rfl rfl (YJ_loadL rfl tyi_28 (by repeat first | exact .head _ | apply List.Mem.tail) rfl) ?_ | refine LJ_y rfl rfl (YJ_loadFact rfl tyi_28 (by repeat first | exact .head _ | apply List.Mem.tail) rfl) ?_
        refine LJ_y rfl rfl (YJ_move rfl) ?_
        first | refine LJ_y rfl rfl (YJ_loadN (vs := [_, _]) rfl tyi_23 (by repeat first | exact .head _ | apply List.Mem.tail) rfl rfl) ?_ | refine LJ_y rfl rfl (YJ_loadFactN (vs := [_, _]) rfl tyi_23 (by repeat first | exact .head _ | apply List.Mem.tail) rfl rfl) ?_
        refine LJ_call0 rfl rfl rfl rfl rfl (holds_c (h := hm) (pts := (hPts a1 a2 e1 e2 c1 c2)) (tris := (triNew ((0 : Nat) : Int) ((2 : Nat) : Int) ((1 : Nat) : Int))) (t := ⟨((0 : Nat) : Int), ((2 : Nat) : Int), ((1 : Nat) : Int), 1, 2, 3, false, false, false⟩) hP (by decide) rfl (by unfold Tr.ok; exact ⟨⟨by decide, Int.ofNat_lt.2 l0⟩, ⟨by decide, Int.ofNat_lt.2 l2⟩, ⟨by decide, Int.ofNat_lt.2 l1⟩⟩) (tm_p c1 c2)) (fun r h => .tail _ (frz_mesh r h)) ?_
        refine LJ_y rfl rfl (YJ_not rfl) ?_
        refine LJ_y rfl rfl (YJ_pickF rfl rfl) ?_
        refine LJ_y rfl rfl (YJ_move rfl) ?_
        refine LJ_bool (c := false) (congrArg not (decide_eq_true hv1)) ?_
        first | refine LJ_y rfl rfl (YJ_loadL rfl tyi_28 (by repeat first | exact .head _ | apply List.Mem.tail) rfl) ?_ | refine LJ_y rfl rfl (YJ_loadFact rfl tyi_28 (by repeat first | exact .head _ | apply List.Mem.tail) rfl) ?_
        refine LJ_y rfl rfl (YJ_move rfl) ?_
        first | refine LJ_y rfl rfl (YJ_loadN (vs := [_, _]) rfl tyi_23 (by repeat first | exact .head _ | apply List.Mem.tail) rfl rfl) ?_ | refine LJ_y rfl rfl (YJ_loadFactN (vs := [_, _]) rfl tyi_23 (by repeat first | exact .head _ | apply List.Mem.tail) rfl rfl) ?_
        refine LJ_call0 rfl rfl rfl rfl rfl (holds_c (h := hm) (pts := (hPts a1 a2 e1 e2 c1 c2)) (tris := (triNew ((0 : Nat) : Int) ((2 : Nat) : Int) ((1 : Nat) : Int))) (t := ⟨((0 : Nat) : Int), ((2 : Nat) : Int), ((1 : Nat) : Int), 1, 2, 3, false, false, false⟩) hP (by decide) rfl (by unfold Tr.ok; exact ⟨⟨by decide, Int.ofNat_lt.2 l0⟩, ⟨by decide, Int.ofNat_lt.2 l2⟩, ⟨by decide, Int.ofNat_lt.2 l1⟩⟩) (tm_p e1 e2)) (fun r h => .tail _ (frz_mesh r h)) ?_
        refine LJ_y rfl rfl (YJ_not rfl) ?_
        refine LJ_y rfl rfl (YJ_pickF rfl rfl) ?_
        refine LJ_nil ?_
        refine QJ_thenR (by repeat with_reducible first | exact no_round | exact no_begin | apply no_then | apply no_block) ?_
        refine RJ_condF2 rfl (congrArg not (decide_eq_true hv2)) ?_
        refine RJ_skip ?_
        refine QJ_in_normal ?_
        refine QJ_again (μ1 := [_, _, _, _, _]) (μ2 := [_, _, _, _]) (φ1 := []) (permI [3, 4, 4, 4, 4, 4] rfl) (fun _ h => nomatch h) ?_
        exact .inl ⟨rfl, (), trivial, rfl, rfl⟩
      · try simp only [decide_eq_true_eq, decide_eq_false_iff_not, Bool.not_eq_true', Bool.not_eq_false', Bool.and_eq_true, Bool.and_eq_false_iff, beq_iff_eq, bne_iff_ne, beq_eq_false_iff_ne, bne_eq_false_iff_eq, ne_eq, decide_eq_decide] at h71
        refine LJ_skip rfl rfl ?_
        refine LJ_skip rfl rfl ?_
        refine LJ_skip rfl rfl ?_
        refine LJ_skip rfl rfl ?_
        refine LJ_skip rfl rfl ?_
        refine LJ_y rfl rfl (YJ_pickF rfl rfl) ?_
        refine LJ_y rfl rfl (YJ_assign rfl) ?_
        refine LJ_nil ?_
        refine QJ_thenR (by repeat with_reducible first | exact no_round | exact no_begin | apply no_then | apply no_block) ?_
        refine RJ_seq ?_
        refine RJ_reg (by kernel_rfl) ?_
        first | refine LJ_y rfl rfl (YJ_loadL rfl tyi_28 (by repeat first | exact .head _ | apply List.Mem.tail) rfl) ?_ | refine LJ_y rfl rfl (YJ_loadFact rfl tyi_28 (by repeat first | exact .head _ | apply List.Mem.tail) rfl) ?_
        refine LJ_y rfl rfl (YJ_move rfl) ?_
        first | refine LJ_y rfl rfl (YJ_loadN (vs := [_, _]) rfl tyi_23 (by repeat first | exact .head _ | apply List.Mem.tail) rfl rfl) ?_ | refine LJ_y rfl rfl (YJ_loadFactN (vs := [_, _]) rfl tyi_23 (by repeat first | exact .head _ | apply List.Mem.tail) rfl rfl) ?_
        refine LJ_call0 rfl rfl rfl rfl rfl (holds_c (h := hm) (pts := (hPts a1 a2 e1 e2 c1 c2)) (tris := (triNew ((0 : Nat) : Int) ((2 : Nat) : Int) ((1 : Nat) : Int))) (t := ⟨((0 : Nat) : Int), ((2 : Nat) : Int), ((1 : Nat) : Int), 1, 2, 3, false, false, false⟩) hP (by decide) rfl (by unfold Tr.ok; exact ⟨⟨by decide, Int.ofNat_lt.2 l0⟩, ⟨by decide, Int.ofNat_lt.2 l2⟩, ⟨by decide, Int.ofNat_lt.2 l1⟩⟩) (tm_p q1 q2)) (fun r h => .tail _ (frz_mesh r h)) ?_
        refine LJ_y rfl rfl (YJ_move rfl) ?_
        refine LJ_y rfl rfl (YJ_neb rfl rfl ubool_4) ?_
        refine LJ_y rfl rfl (YJ_move rfl) ?_
        refine LJ_bool (c := false) (ne_fls (fun q => h71 (hin.1 q).2.1)) ?_
        first | refine LJ_y rfl rfl (YJ_loadL rfl tyi_28 (by repeat first | exact .head _ | apply List.Mem.tail) rfl) ?_ | refine LJ_y rfl rfl (YJ_loadFact rfl tyi_28 (by repeat first | exact .head _ | apply List.Mem.tail) rfl) ?_
        refine LJ_y rfl rfl (YJ_move rfl) ?_
        first | refine LJ_y rfl rfl (YJ_loadN (vs := [_, _]) rfl tyi_23 (by repeat first | exact .head _ | apply List.Mem.tail) rfl rfl) ?_ | refine LJ_y rfl rfl (YJ_loadFactN (vs := [_, _]) rfl tyi_23 (by repeat first | exact .head _ | apply List.Mem.tail) rfl rfl) ?_
        refine LJ_call0 rfl rfl rfl rfl rfl (holds_c (h := hm) (pts := (hPts a1 a2 e1 e2 c1 c2)) (tris := (triNew ((0 : Nat) : Int) ((2 : Nat) : Int) ((1 : Nat) : Int))) (t := ⟨((0 : Nat) : Int), ((2 : Nat) : Int), ((1 : Nat) : Int), 1, 2, 3, false, false, false⟩) hP (by decide) rfl (by unfold Tr.ok; exact ⟨⟨by decide, Int.ofNat_lt.2 l0⟩, ⟨by decide, Int.ofNat_lt.2 l2⟩, ⟨by decide, Int.ofNat_lt.2 l1⟩⟩) (tm_p a1 a2)) (fun r h => .tail _ (frz_mesh r h)) ?_
        refine LJ_y rfl rfl (YJ_not rfl) ?_
        refine LJ_y rfl rfl (YJ_pickF rfl rfl) ?_
        refine LJ_y rfl rfl (YJ_move rfl) ?_
        refine LJ_bool (c := false) (congrArg not (decide_eq_true hv0)) ?_
        first | refine LJ_y rfl rfl (YJ_loadL rfl tyi_28 (by repeat first | exact .head _ | apply List.Mem.tail) rfl) ?_ | refine LJ_y rfl rfl (YJ_loadFact rfl tyi_28 (by repeat first | exact .head _ | apply List.Mem.tail) rfl) ?_
        refine LJ_y rfl rfl (YJ_move rfl) ?_
        first | refine LJ_y rfl rfl (YJ_loadN (vs := [_, _]) rfl tyi_23 (by repeat first | exact .head _ | apply List.Mem.tail) rfl rfl) ?_ | refine LJ_y rfl rfl (YJ_loadFactN (vs := [_, _]) rfl tyi_23 (by repeat first | exact .head _ | apply List.Mem.tail) rfl rfl) ?_
        refine LJ_call0 rfl rfl rfl rfl rfl (holds_c (h := hm) (pts := (hPts a1 a2 e1 e2 c1 c2)) (tris := (triNew ((0 : Nat) : Int) ((2 : Nat) : Int) ((1 : Nat) : Int))) (t := ⟨((0 : Nat) : Int), ((2 : Nat) : Int), ((1 : Nat) : Int), 1, 2, 3, false, false, false⟩) hP (by decide) rfl (by unfold Tr.ok; exact ⟨⟨by decide, Int.ofNat_lt.2 l0⟩, ⟨by decide, Int.ofNat_lt.2 l2⟩, ⟨by decide, Int.ofNat_lt.2 l1⟩⟩) (tm_p c1 c2)) (fun r h => .tail _ (frz_mesh r h)) ?_
        refine LJ_y rfl rfl (YJ_not rfl) ?_
        refine LJ_y rfl rfl (YJ_pickF rfl rfl) ?_
        refine LJ_y rfl rfl (YJ_move rfl) ?_
        refine LJ_bool (c := false) (congrArg not (decide_eq_true hv1)) ?_
        first | refine LJ_y rfl rfl (YJ_loadL rfl tyi_28 (by repeat first | exact .head _ | apply List.Mem.tail) rfl) ?_ | refine LJ_y rfl rfl (YJ_loadFact rfl tyi_28 (by repeat first | exact .head _ | apply List.Mem.tail) rfl) ?_
        refine LJ_y rfl rfl (YJ_move rfl) ?_
        first | refine LJ_y rfl rfl (YJ_loadN (vs := [_, _]) rfl tyi_23 (by repeat first | exact .head _ | apply List.Mem.tail) rfl rfl) ?_ | refine LJ_y rfl rfl (YJ_loadFactN (vs := [_, _]) rfl tyi_23 (by repeat first | exact .head _ | apply List.Mem.tail) rfl rfl) ?_
        refine LJ_call0 rfl rfl rfl rfl rfl (holds_c (h := hm) (pts := (hPts a1 a2 e1 e2 c1 c2)) (tris := (triNew ((0 : Nat) : Int) ((2 : Nat) : Int) ((1 : Nat) : Int))) (t := ⟨((0 : Nat) : Int), ((2 : Nat) : Int), ((1 : Nat) : Int), 1, 2, 3, false, false, false⟩) hP (by decide) rfl (by unfold Tr.ok; exact ⟨⟨by decide, Int.ofNat_lt.2 l0⟩, ⟨by decide, Int.ofNat_lt.2 l2⟩, ⟨by decide, Int.ofNat_lt.2 l1⟩⟩) (tm_p e1 e2)) (fun r h => .tail _ (frz_mesh r h)) ?_
        refine LJ_y rfl rfl (YJ_not rfl) ?_
        refine LJ_y rfl rfl (YJ_pickF rfl rfl) ?_
        refine LJ_nil ?_
        refine QJ_thenR (by repeat with_reducible first | exact no_round | exact no_begin | apply no_then | apply no_block) ?_
        refine RJ_condF2 rfl (congrArg not (decide_eq_true hv2)) ?_
        refine RJ_skip ?_
        refine QJ_in_normal ?_
        refine QJ_again (μ1 := [_, _, _, _, _]) (μ2 := [_, _, _, _]) (φ1 := []) (permI [3, 4, 4, 4, 4, 4] rfl) (fun _ h => nomatch h) ?_
        exact .inl ⟨rfl, (), trivial, rfl, rfl⟩
    · try simp only [decide_eq_true_eq, decide_eq_false_iff_not, Bool.not_eq_true', Bool.not_eq_false', Bool.and_eq_true, Bool.and_eq_false_iff, beq_iff_eq, bne_iff_ne, beq_eq_false_iff_ne, bne_eq_false_iff_eq, ne_eq, decide_eq_decide] at h64
      refine LJ_skip rfl rfl ?_
      refine LJ_skip rfl rfl ?_
      refine LJ_skip rfl rfl ?_
      refine LJ_skip rfl rfl ?_
      refine LJ_skip rfl rfl ?_
      refine LJ_y rfl rfl (YJ_pickF rfl rfl) ?_
      refine LJ_y rfl rfl (YJ_move rfl) ?_
      refine LJ_skip rfl rfl ?_
      refine LJ_skip rfl rfl ?_
      refine LJ_skip rfl rfl ?_
      refine LJ_skip rfl rfl ?_
      refine LJ_skip rfl rfl ?_
      refine LJ_y rfl rfl (YJ_pickF rfl rfl) ?_
      refine LJ_y rfl rfl (YJ_assign rfl) ?_
      refine LJ_nil ?_
      refine QJ_thenR (by repeat with_reducible first | exact no_round | exact no_begin | apply no_then | apply no_block) ?_
      refine RJ_seq ?_
      refine RJ_reg (by kernel_rfl) ?_
      first | refine LJ_y rfl rfl (YJ_loadL rfl tyi_28 (by repeat first | exact .head _ | apply List.Mem.tail) rfl) ?_ | refine LJ_y rfl rfl (YJ_loadFact rfl tyi_28 (by repeat first | exact .head _ | apply List.Mem.tail) rfl) ?_
      refine LJ_y rfl rfl (YJ_move rfl) ?_
      first | refine LJ_y rfl rfl (YJ_loadN (vs := [_, _]) rfl tyi_23 (by repeat first | exact .head _ | apply List.Mem.tail) rfl rfl) ?_ | refine LJ_y rfl rfl (YJ_loadFactN (vs := [_, _]) rfl tyi_23 (by repeat first | exact .head _ | apply List.Mem.tail) rfl rfl) ?_
      refine LJ_call0 rfl rfl rfl rfl rfl (holds_c (h := hm) (pts := (hPts a1 a2 e1 e2 c1 c2)) (tris := (triNew ((0 : Nat) : Int) ((2 : Nat) : Int) ((1 : Nat) : Int))) (t := ⟨((0 : Nat) : Int), ((2 : Nat) : Int), ((1 : Nat) : Int), 1, 2, 3, false, false, false⟩) hP (by decide) rfl (by unfold Tr.ok; exact ⟨⟨by decide, Int.ofNat_lt.2 l0⟩, ⟨by decide, Int.ofNat_lt.2 l2⟩, ⟨by decide, Int.ofNat_lt.2 l1⟩⟩) (tm_p q1 q2)) (fun r h => .tail _ (frz_mesh r h)) ?_
      refine LJ_y rfl rfl (YJ_move rfl) ?_
      refine LJ_y rfl rfl (YJ_neb rfl rfl ubool_4) ?_
      refine LJ_y rfl rfl (YJ_move rfl) ?_
      refine LJ_bool (c := false) (ne_fls (fun q => h64 (hin.1 q).1)) ?_
      first | refine LJ_y rfl rfl (YJ_loadL rfl tyi_28 (by repeat first | exact .head _ | apply List.Mem.tail) rfl) ?_ | refine LJ_y rfl rfl (YJ_loadFact rfl tyi_28 (by repeat first | exact .head _ | apply List.Mem.tail) rfl) ?_
      refine LJ_y rfl rfl (YJ_move rfl) ?_
      first | refine LJ_y rfl rfl (YJ_loadN (vs := [_, _]) rfl tyi_23 (by repeat first | exact .head _ | apply List.Mem.tail) rfl rfl) ?_ | refine LJ_y rfl rfl (YJ_loadFactN (vs := [_, _]) rfl tyi_23 (by repeat first | exact .head _ | apply List.Mem.tail) rfl rfl) ?_
      refine LJ_call0 rfl rfl rfl rfl rfl (holds_c (h := hm) (pts := (hPts a1 a2 e1 e2 c1 c2)) (tris := (triNew ((0 : Nat) : Int) ((2 : Nat) : Int) ((1 : Nat) : Int))) (t := ⟨((0 : Nat) : Int), ((2 : Nat) : Int), ((1 : Nat) : Int), 1, 2, 3, false, false, false⟩) hP (by decide) rfl (by unfold Tr.ok; exact ⟨⟨by decide, Int.ofNat_lt.2 l0⟩, ⟨by decide, Int.ofNat_lt.2 l2⟩, ⟨by decide, Int.ofNat_lt.2 l1⟩⟩) (tm_p a1 a2)) (fun r h => .tail _ (frz_mesh r h)) ?_
      refine LJ_y rfl rfl (YJ_not rfl) ?_
      refine LJ_y rfl rfl (YJ_pickF rfl rfl) ?_
      refine LJ_y rfl rfl (YJ_move rfl) ?_
      refine LJ_bool (c := false) (congrArg not (decide_eq_true hv0)) ?_
      first | refine LJ_y rfl rfl (YJ_loadL rfl tyi_28 (by repeat first | exact .head _ | apply List.Mem.tail) rfl) ?_ | refine LJ_y rfl rfl (YJ_loadFact rfl tyi_28 (by repeat first | exact .head _ | apply List.Mem.tail) rfl) ?_
      refine LJ_y rfl rfl (YJ_move rfl) ?_
      first | refine LJ_y rfl rfl (YJ_loadN (vs := [_, _]) rfl tyi_23 (by repeat first | exact .head _ | apply List.Mem.tail) rfl rfl) ?_ | refine LJ_y rfl rfl (YJ_loadFactN (vs := [_, _]) rfl tyi_23 (by repeat first | exact .head _ | apply List.Mem.tail) rfl rfl) ?_
      refine LJ_call0 rfl rfl rfl rfl rfl (holds_c (h := hm) (pts := (hPts a1 a2 e1 e2 c1 c2)) (tris := (triNew ((0 : Nat) : Int) ((2 : Nat) : Int) ((1 : Nat) : Int))) (t := ⟨((0 : Nat) : Int), ((2 : Nat) : Int), ((1 : Nat) : Int), 1, 2, 3, false, false, false⟩) hP (by decide) rfl (by unfold Tr.ok; exact ⟨⟨by decide, Int.ofNat_lt.2 l0⟩, ⟨by decide, Int.ofNat_lt.2 l2⟩, ⟨by decide, Int.ofNat_lt.2 l1⟩⟩) (tm_p c1 c2)) (fun r h => .tail _ (frz_mesh r h)) ?_
      refine LJ_y rfl rfl (YJ_not rfl) ?_
      refine LJ_y rfl rfl (YJ_pickF rfl rfl) ?_
      refine LJ_y rfl rfl (YJ_move rfl) ?_
      refine LJ_bool (c := false) (congrArg not (decide_eq_true hv1)) ?_
      first | refine LJ_y rfl rfl (YJ_loadL rfl tyi_28 (by repeat first | exact .head _ | apply List.Mem.tail) rfl) ?_ | refine LJ_y rfl rfl (YJ_loadFact rfl tyi_28 (by repeat first | exact .head _ | apply List.Mem.tail) rfl) ?_
      refine LJ_y rfl rfl (YJ_move rfl) ?_
      first | refine LJ_y rfl rfl (YJ_loadN (vs := [_, _]) rfl tyi_23 (by repeat first | exact .head _ | apply List.Mem.tail) rfl rfl) ?_ | refine LJ_y rfl rfl (YJ_loadFactN (vs := [_, _]) rfl tyi_23 (by repeat first | exact .head _ | apply List.Mem.tail) rfl rfl) ?_
      refine LJ_call0 rfl rfl rfl rfl rfl (holds_c (h := hm) (pts := (hPts a1 a2 e1 e2 c1 c2)) (tris := (triNew ((0 : Nat) : Int) ((2 : Nat) : Int) ((1 : Nat) : Int))) (t := ⟨((0 : Nat) : Int), ((2 : Nat) : Int), ((1 : Nat) : Int), 1, 2, 3, false, false, false⟩) hP (by decide) rfl (by unfold Tr.ok; exact ⟨⟨by decide, Int.ofNat_lt.2 l0⟩, ⟨by decide, Int.ofNat_lt.2 l2⟩, ⟨by decide, Int.ofNat_lt.2 l1⟩⟩) (tm_p e1 e2)) (fun r h => .tail _ (frz_mesh r h)) ?_
      refine LJ_y rfl rfl (YJ_not rfl) ?_
      refine LJ_y rfl rfl (YJ_pickF rfl rfl) ?_
      refine LJ_nil ?_
      refine QJ_thenR (by repeat with_reducible first | exact no_round | exact no_begin | apply no_then | apply no_block) ?_
      refine RJ_condF2 rfl (congrArg not (decide_eq_true hv2)) ?_
      refine RJ_skip ?_
      refine QJ_in_normal ?_
      refine QJ_again (μ1 := [_, _, _, _, _]) (μ2 := [_, _, _, _]) (φ1 := []) (permI [3, 4, 4, 4, 4, 4] rfl) (fun _ h => nomatch h) ?_
      exact .inl ⟨rfl, (), trivial, rfl, rfl⟩
  · intro D0 iR hI
    show QJ _ _ _ _ (defR D0 :: _ :: _ :: _ :: _ :: _) _
    refine QJ_in_normal ?_
    refine QJ_then ?_
    refine CJ_seq ?_
    refine CJ_regD mix (by kernel_rfl) (fun _ _ _ _ _ h => h) (selR [0, 2, 3, 4, 5, 6, 7, 8, 9, 10, 11] _) _ (selR_sub _ _) (fun _ h => h) ?_
    first | refine AJ_y 0 rfl (by kernel_rfl) (by kernel_rfl) rfl rfl (YJ_loadL rfl tyi_28 (by repeat first | exact .head _ | apply List.Mem.tail) rfl) ?_ | refine AJ_y 0 rfl (by kernel_rfl) (by kernel_rfl) rfl rfl (YJ_loadFact rfl tyi_28 (by repeat first | exact .head _ | apply List.Mem.tail) rfl) ?_
    first | refine AJ_y 1 rfl (by kernel_rfl) (by kernel_rfl) rfl rfl (YJ_loadN (vs := [_, _]) rfl tyi_23 (by repeat first | exact .head _ | apply List.Mem.tail) rfl rfl) ?_ | refine AJ_y 1 rfl (by kernel_rfl) (by kernel_rfl) rfl rfl (YJ_loadFactN (vs := [_, _]) rfl tyi_23 (by repeat first | exact .head _ | apply List.Mem.tail) rfl rfl) ?_
    first | refine AJ_y 2 rfl (by kernel_rfl) (by kernel_rfl) rfl rfl (YJ_loadL rfl tyi_28 (by repeat first | exact .head _ | apply List.Mem.tail) rfl) ?_ | refine AJ_y 2 rfl (by kernel_rfl) (by kernel_rfl) rfl rfl (YJ_loadFact rfl tyi_28 (by repeat first | exact .head _ | apply List.Mem.tail) rfl) ?_
    first | refine AJ_y 3 rfl (by kernel_rfl) (by kernel_rfl) rfl rfl (YJ_loadN (vs := [_, _]) rfl tyi_23 (by repeat first | exact .head _ | apply List.Mem.tail) rfl rfl) ?_ | refine AJ_y 3 rfl (by kernel_rfl) (by kernel_rfl) rfl rfl (YJ_loadFactN (vs := [_, _]) rfl tyi_23 (by repeat first | exact .head _ | apply List.Mem.tail) rfl rfl) ?_
    refine AJ_call0 4 rfl (by kernel_rfl) rfl rfl rfl rfl rfl (look_c (h := hm) hP hT (by decide) (tm_p q1 q2)) (fun r h => .tail _ (frz_mesh r h)) ?_
    refine AJ_call0 5 rfl (by kernel_rfl) rfl rfl rfl rfl rfl (rgt_c (h := hm) hP hT hG (by decide) (tm_p q1 q2)) (fun r h => .tail _ (frz_mesh r h)) ?_
    refine AJ_store (cs' := #[_]) (μ' := [_, _, _, _, _, _, _, _, _, _, _, _]) 6 1 rfl (by kernel_rfl) rfl rfl rfl rfl tyi_4 rfl (Nat.le_of_ble_eq_true rfl) rfl rfl rfl (fun _ => AllIn.sub (And.intro (by repeat first | exact .head _ | apply List.Mem.tail) (And.intro (by repeat first | exact .head _ | apply List.Mem.tail) (And.intro (by repeat first | exact .head _ | apply List.Mem.tail) (And.intro (by repeat first | exact .head _ | apply List.Mem.tail) (And.intro (by repeat first | exact .head _ | apply List.Mem.tail) (And.intro (by repeat first | exact .head _ | apply List.Mem.tail) (And.intro (by repeat first | exact .head _ | apply List.Mem.tail) (And.intro (by repeat first | exact .head _ | apply List.Mem.tail) (And.intro (by repeat first | exact .head _ | apply List.Mem.tail) (And.intro (by repeat first | exact .head _ | apply List.Mem.tail) (And.intro (by repeat first | exact .head _ | apply List.Mem.tail) (trivial))))))))))))) ?_
    refine AJ_done (by kernel_rfl) ?_
    refine QJ_then ?_
    refine CJ_ret ?_
    refine QJ_finM (.inl rfl) [D0] rfl (μ' := []) (μr := [_, _, _, _, _, _, _, _, _, _, _]) (φ' := []) (res_cell1 rfl rfl (by repeat first | exact .head _ | apply List.Mem.tail) tyi_4) (permI [] rfl) (fun _ h => nomatch h) ?_
    exact ⟨congrArg Value.bool (new_right (by decide) (by decide) (by decide) hD), rfl, rfl⟩
  · exact fun _ _ _ _ _ h => h.elim


theorem wholds_c {a1 a2 e1 e2 c1 c2 q1 q2 : Int} : Tri Try.prog 3 [.agg #[.int .i64 a1, .int .i64 a2, .int .i64 e1, .int .i64 e2, .int .i64 c1, .int .i64 c2], ptv q1 q2] [] [] (Ret0 (.bool true)) := by
  rcases Int.lt_trichotomy (pA (hPts a1 a2 e1 e2 c1 c2) 0 1 2) 0 with h | h | h
  · exact wholds_neg h
  · exact wholds_bad h
  · exact wholds_pos h


end Go.Proofs.Ytbanlhlggkdanaa
