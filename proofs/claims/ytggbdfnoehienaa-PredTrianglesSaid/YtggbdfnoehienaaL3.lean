/- The walk of the statement WideDets. -/
import Derived.Test.YtggbdfnoehienaaL2
import Derived.Test.YtggbdfnoehienaaArr
set_option linter.unusedSimpArgs false
set_option linter.unusedVariables false
namespace Go.Proofs.Ytggbdfnoehienaa
open Go.RowKit

theorem arrt_36 : arrt Try.prog 36 = some (4, 3, 1) := by kernel_rfl
theorem tyi_3 : tyi Try.prog 3 = some (false, 1) := by kernel_rfl
theorem ent_6 : Enter Try.prog 6 = true := by kernel_rfl
theorem tyi_36 : tyi Try.prog 36 = some (true, 4) := by kernel_rfl


theorem all_step {p : Nat → Prop} {i : Nat} (h : ∀ j, j < i → p j) (hi : p i) : ∀ j, j < i + 1 → p j := fun j hj => by
  rcases Nat.lt_or_eq_of_le (Nat.le_of_lt_succ hj) with h' | h'
  · exact h j h'
  · subst h'; exact hi
def T62 (x : Int) : Prop := -4611686018427387904 ≤ x ∧ x ≤ 4611686018427387904
theorem T62.i {x : Int} (h : T62 x) : I64 x := by unfold T62 at h; unfold I64; omega
theorem mul_T62 {x y : Int} (h : T62 x) (h' : T62 y) : -21267647932558653966460912964485513216 ≤ x * y ∧ x * y ≤ 21267647932558653966460912964485513216 := by
  have key : (x * y).natAbs ≤ 21267647932558653966460912964485513216 := by
    rw [Int.natAbs_mul]
    have h1 : x.natAbs ≤ 4611686018427387904 := by unfold T62 at h; omega
    have h2 : y.natAbs ≤ 4611686018427387904 := by unfold T62 at h'; omega
    exact Nat.le_trans (Nat.mul_le_mul h1 h2) (by decide)
  omega
theorem det_r {a b c d : Int} (ha : T62 a) (hb : T62 b) (hc : T62 c) (hd : T62 d) : R128 (det a b c d) := by
  have h1 := mul_T62 ha hd
  have h2 := mul_T62 hb hc
  unfold R128 det; omega
theorem det_turn (a b c d : Int) : -(det c d a b) = a * d - b * c := by unfold det; rw [Int.mul_comm c b, Int.mul_comm d a]; omega
theorem ix4 {a b c d : Int} {i : Nat} (h : i < 4) : lget [Value.int .i64 a, .int .i64 b, .int .i64 c, .int .i64 d] (((i : Int)).toNat * 1) = some (.int .i64 ([a, b, c, d].getD i 0)) :=
  Iv_get (l := [a, b, c, d]) (k := i) (by omega) h
theorem mul_r62 {x y : Int} (h : T62 x) (h' : T62 y) : R128 (x * y) := by
  have := mul_T62 h h'
  unfold R128; omega


set_option maxRecDepth 100000 in
set_option maxHeartbeats 4000000 in
theorem dets_c {a b c d : Int} (ia : I64 a) (ib : I64 b) (ic : I64 c) (id : I64 d) : Tri Try.prog 6 [.agg #[.int .i64 a, .int .i64 b, .int .i64 c, .int .i64 d]] [] [] (Ret0 (.bool true)) := by
  refine Tri_of (N := 65) Try.func6 rfl ent_6 rfl rfl ?_
  intro w0 S0 T0
  show CJ _ _ _ [(0, _)] _ _
  refine CJ_seq ?_
  refine CJ_reg ?_
  refine LJ_box (cs := #[_, _, _, _]) rfl rfl rfl rfl ?_
  intro b1
  refine LJ_y rfl rfl (YJ_assign rfl) ?_
  refine LJ_nil ?_
  refine QJ_then ?_
  refine CJ_seq ?_
  refine CJ_seq ?_
  refine CJ_reg ?_
  refine LJ_call0 rfl rfl rfl rfl rfl fit_c (AllIn.sub (by first | exact trivial | exact And.intro (by repeat first | exact .head _ | apply List.Mem.tail) trivial | exact And.intro (by repeat first | exact .head _ | apply List.Mem.tail) (And.intro (by repeat first | exact .head _ | apply List.Mem.tail) trivial))) ?_
  refine LJ_y rfl rfl (YJ_not rfl) ?_
  refine LJ_nil ?_
  refine QJ_then ?_
  refine CJ_condF rfl ?_
  refine CJ_skip ?_
  refine QJ_then ?_
  refine CJ_seq ?_
  refine CJ_seq ?_
  refine CJ_reg ?_
  first | refine LJ_y rfl rfl (YJ_loadN (vs := [_, _, _, _]) rfl tyi_36 (by repeat first | exact .head _ | apply List.Mem.tail) rfl rfl) ?_ | refine LJ_y rfl rfl (YJ_loadFactN (vs := [_, _, _, _]) rfl tyi_36 (by repeat first | exact .head _ | apply List.Mem.tail) rfl rfl) ?_
  refine LJ_y rfl rfl (YJ_move rfl) ?_
  refine LJ_nil ?_
  refine QJ_then ?_
  refine CJ_block ?_
  refine CJ_loop (F := fun (x : Nat) => ⟨[(1, .pointer (some ⟨b1, 0, none⟩)), (13, .agg #[.int .i64 a, .int .i64 b, .int .i64 c, .int .i64 d]), (14, .int .i64 (x : Int))], [cellsR b1 #[.int .i64 a, .int .i64 b, .int .i64 c, .int .i64 d] 36], []⟩) (I := fun (x : Nat) => x ≤ 4 ∧ ∀ j, j < x → T62 ([a, b, c, d].getD j 0)) (m := fun (x : Nat) => 4 - x) 0 (μr := []) ⟨by omega, fun j hj => absurd hj (by omega)⟩ (And.intro rfl (And.intro rfl (And.intro rfl (trivial)))) (List.Perm.refl _) (fun _ h => h) ?_
  rintro i ⟨hi, hr⟩
  try dsimp only at hi
  try dsimp only at hr
  show CJ _ _ _ [(1, .pointer (some ⟨b1, 0, none⟩)), (13, .agg #[.int .i64 a, .int .i64 b, .int .i64 c, .int .i64 d]), (14, .int .i64 (i : Int))] [cellsR b1 #[.int .i64 a, .int .i64 b, .int .i64 c, .int .i64 d] 36] []
  refine CJ_seq ?_
  refine CJ_reg ?_
  refine LJ_y rfl rfl (YJ_bin rfl rfl rfl) ?_
  refine LJ_nil ?_
  refine QJ_then ?_
  refine CJ_seq ?_
  refine CJ_cond rfl (fun h15 => ?_) (fun h15 => ?_)
  · try simp only [decide_eq_true_eq, decide_eq_false_iff_not, Bool.not_eq_true', Bool.not_eq_false', Bool.and_eq_true, Bool.and_eq_false_iff, beq_iff_eq, bne_iff_ne, beq_eq_false_iff_ne, bne_eq_false_iff_eq, ne_eq, decide_eq_decide] at h15
    refine CJ_skip ?_
    refine QJ_then ?_
    refine CJ_seq ?_
    refine CJ_block ?_
    refine CJ_seq ?_
    refine CJ_reg ?_
    refine LJ_y rfl rfl (YJ_index1 rfl rfl arrt_36 tyi_3 (by omega) (by omega) (ix4 (by omega))) ?_
    refine LJ_y rfl rfl (YJ_assign rfl) ?_
    refine LJ_nil ?_
    refine QJ_then ?_
    refine CJ_seq ?_
    refine CJ_reg ?_
    refine LJ_y rfl rfl (YJ_move rfl) ?_
    refine LJ_y rfl rfl (YJ_bin rfl rfl rfl) ?_
    refine LJ_y rfl rfl (YJ_move rfl) ?_
    refine LJ_boolC (fun h19 => ?_) (fun h19 => ?_)
    · try simp only [decide_eq_true_eq, decide_eq_false_iff_not, Bool.not_eq_true', Bool.not_eq_false', Bool.and_eq_true, Bool.and_eq_false_iff, beq_iff_eq, bne_iff_ne, beq_eq_false_iff_ne, bne_eq_false_iff_eq, ne_eq, decide_eq_decide] at h19
      refine LJ_skip rfl rfl ?_
      refine LJ_skip rfl rfl ?_
      refine LJ_y rfl rfl (YJ_pickT rfl rfl) ?_
      refine LJ_nil ?_
      refine QJ_then ?_
      refine CJ_condT rfl ?_
      refine CJ_seq ?_
      refine CJ_reg ?_
      refine LJ_y rfl rfl (YJ_assign rfl) ?_
      refine LJ_nil ?_
      refine QJ_then ?_
      refine CJ_ret ?_
      refine QJ_in_ret ?_
      refine QJ_then_ret ?_
      refine QJ_then_ret ?_
      refine QJ_in_ret ?_
      refine QJ_then_ret ?_
      refine QJ_fin (.inl rfl) (μ' := []) (μr := _) (φ' := []) (res_tmp rfl rfl) (List.Perm.refl _) (fun _ h => nomatch h) ?_
      exact ⟨rfl, rfl, rfl⟩
    · try simp only [decide_eq_true_eq, decide_eq_false_iff_not, Bool.not_eq_true', Bool.not_eq_false', Bool.and_eq_true, Bool.and_eq_false_iff, beq_iff_eq, bne_iff_ne, beq_eq_false_iff_ne, bne_eq_false_iff_eq, ne_eq, decide_eq_decide] at h19
      refine LJ_y rfl rfl (YJ_move rfl) ?_
      refine LJ_y rfl rfl (YJ_bin rfl rfl rfl) ?_
      refine LJ_y rfl rfl (YJ_pickF rfl rfl) ?_
      refine LJ_nil ?_
      refine QJ_then ?_
      refine CJ_cond rfl (fun h22 => ?_) (fun h22 => ?_)
      · try simp only [decide_eq_true_eq, decide_eq_false_iff_not, Bool.not_eq_true', Bool.not_eq_false', Bool.and_eq_true, Bool.and_eq_false_iff, beq_iff_eq, bne_iff_ne, beq_eq_false_iff_ne, bne_eq_false_iff_eq, ne_eq, decide_eq_decide] at h22
        refine CJ_seq ?_
        refine CJ_reg ?_
        refine LJ_y rfl rfl (YJ_assign rfl) ?_
        refine LJ_nil ?_
        refine QJ_then ?_
        refine CJ_ret ?_
        refine QJ_in_ret ?_
        refine QJ_then_ret ?_
        refine QJ_then_ret ?_
        refine QJ_in_ret ?_
        refine QJ_then_ret ?_
        refine QJ_fin (.inl rfl) (μ' := []) (μr := _) (φ' := []) (res_tmp rfl rfl) (List.Perm.refl _) (fun _ h => nomatch h) ?_
        exact ⟨rfl, rfl, rfl⟩
      · try simp only [decide_eq_true_eq, decide_eq_false_iff_not, Bool.not_eq_true', Bool.not_eq_false', Bool.and_eq_true, Bool.and_eq_false_iff, beq_iff_eq, bne_iff_ne, beq_eq_false_iff_ne, bne_eq_false_iff_eq, ne_eq, decide_eq_decide] at h22
        refine CJ_skip ?_
        refine QJ_in_normal ?_
        refine QJ_then ?_
        refine CJ_reg ?_
        first | refine LJ_y rfl rfl (YJ_bin rfl rfl (iop_add (by omega))) ?_ | refine LJ_y rfl rfl (YJ_bin rfl rfl rfl) ?_
        refine LJ_y rfl rfl (YJ_move rfl) ?_
        refine LJ_nil ?_
        refine QJ_round (F := fun (x : Nat) => ⟨[(1, .pointer (some ⟨b1, 0, none⟩)), (13, .agg #[.int .i64 a, .int .i64 b, .int .i64 c, .int .i64 d]), (14, .int .i64 (x : Int))], [cellsR b1 #[.int .i64 a, .int .i64 b, .int .i64 c, .int .i64 d] 36], []⟩) (I := fun (x : Nat) => x ≤ 4 ∧ ∀ j, j < x → T62 ([a, b, c, d].getD j 0)) (m := fun (x : Nat) => 4 - x) (i := i) ((i + 1)) (μr := []) ⟨by omega, all_step hr ⟨by omega, by omega⟩⟩ (by omega) (And.intro rfl (And.intro rfl (And.intro rfl (trivial)))) (List.Perm.refl _) (fun _ h => h)
  · try simp only [decide_eq_true_eq, decide_eq_false_iff_not, Bool.not_eq_true', Bool.not_eq_false', Bool.and_eq_true, Bool.and_eq_false_iff, beq_iff_eq, bne_iff_ne, beq_eq_false_iff_ne, bne_eq_false_iff_eq, ne_eq, decide_eq_decide] at h15
    obtain rfl : i = 4 := by omega
    have ha : T62 a := hr 0 (by omega)
    have hb : T62 b := hr 1 (by omega)
    have hc : T62 c := hr 2 (by omega)
    have hd : T62 d := hr 3 (by omega)
    clear hr
    refine CJ_exit ?_
    refine QJ_then_exit ?_
    refine QJ_then_exit ?_
    refine QJ_in_exit ?_
    refine QJ_then ?_
    refine CJ_seq ?_
    refine CJ_regD mix (by kernel_rfl) (fun _ _ _ _ _ h => h) _ _ (fun _ h => h) (fun _ h => h) ?_
    refine AJ_y 0 rfl (by kernel_rfl) (by kernel_rfl) rfl rfl (YJ_ixArr rfl rfl arrt_36 (by omega) (by omega) rfl) ?_
    first | refine AJ_y 1 rfl (by kernel_rfl) (by kernel_rfl) rfl rfl (YJ_loadL rfl tyi_3 (by repeat first | exact .head _ | apply List.Mem.tail) rfl) ?_ | refine AJ_y 1 rfl (by kernel_rfl) (by kernel_rfl) rfl rfl (YJ_loadFact rfl tyi_3 (by repeat first | exact .head _ | apply List.Mem.tail) rfl) ?_
    refine AJ_y 2 rfl (by kernel_rfl) (by kernel_rfl) rfl rfl (YJ_ixArr rfl rfl arrt_36 (by omega) (by omega) rfl) ?_
    first | refine AJ_y 3 rfl (by kernel_rfl) (by kernel_rfl) rfl rfl (YJ_loadL rfl tyi_3 (by repeat first | exact .head _ | apply List.Mem.tail) rfl) ?_ | refine AJ_y 3 rfl (by kernel_rfl) (by kernel_rfl) rfl rfl (YJ_loadFact rfl tyi_3 (by repeat first | exact .head _ | apply List.Mem.tail) rfl) ?_
    refine AJ_y 4 rfl (by kernel_rfl) (by kernel_rfl) rfl rfl (YJ_ixArr rfl rfl arrt_36 (by omega) (by omega) rfl) ?_
    first | refine AJ_y 5 rfl (by kernel_rfl) (by kernel_rfl) rfl rfl (YJ_loadL rfl tyi_3 (by repeat first | exact .head _ | apply List.Mem.tail) rfl) ?_ | refine AJ_y 5 rfl (by kernel_rfl) (by kernel_rfl) rfl rfl (YJ_loadFact rfl tyi_3 (by repeat first | exact .head _ | apply List.Mem.tail) rfl) ?_
    refine AJ_y 6 rfl (by kernel_rfl) (by kernel_rfl) rfl rfl (YJ_ixArr rfl rfl arrt_36 (by omega) (by omega) rfl) ?_
    first | refine AJ_y 7 rfl (by kernel_rfl) (by kernel_rfl) rfl rfl (YJ_loadL rfl tyi_3 (by repeat first | exact .head _ | apply List.Mem.tail) rfl) ?_ | refine AJ_y 7 rfl (by kernel_rfl) (by kernel_rfl) rfl rfl (YJ_loadFact rfl tyi_3 (by repeat first | exact .head _ | apply List.Mem.tail) rfl) ?_
    refine AJ_y 8 rfl (by kernel_rfl) (by kernel_rfl) rfl rfl (YJ_assign rfl) ?_
    refine AJ_y 9 rfl (by kernel_rfl) (by kernel_rfl) rfl rfl (YJ_assign rfl) ?_
    refine AJ_y 10 rfl (by kernel_rfl) (by kernel_rfl) rfl rfl (YJ_assign rfl) ?_
    refine AJ_y 11 rfl (by kernel_rfl) (by kernel_rfl) rfl rfl (YJ_assign rfl) ?_
    refine AJ_done (by kernel_rfl) ?_
    refine QJ_then ?_
    refine CJ_seq ?_
    refine CJ_reg ?_
    refine LJ_y rfl rfl (YJ_move rfl) ?_
    refine LJ_callX rfl rfl rfl rfl rfl (nof_c ha.i) (AllIn.sub (by first | exact trivial | exact And.intro (by repeat first | exact .head _ | apply List.Mem.tail) trivial | exact And.intro (by repeat first | exact .head _ | apply List.Mem.tail) (And.intro (by repeat first | exact .head _ | apply List.Mem.tail) trivial))) ?_
    rintro ⟨A1, c1⟩ hcap1
    dsimp only at hcap1
    dsimp only [List.cons_append, List.nil_append]
    refine LJ_y rfl rfl (YJ_move rfl) ?_
    refine LJ_callX rfl rfl rfl rfl rfl (nof_c hd.i) (AllIn.sub (by first | exact trivial | exact And.intro (by repeat first | exact .head _ | apply List.Mem.tail) trivial | exact And.intro (by repeat first | exact .head _ | apply List.Mem.tail) (And.intro (by repeat first | exact .head _ | apply List.Mem.tail) trivial))) ?_
    rintro ⟨A2, c2⟩ hcap2
    dsimp only at hcap2
    dsimp only [List.cons_append, List.nil_append]
    refine LJ_callX rfl rfl rfl rfl rfl (nmul_c (dl_big ha.i.r) (dl_big hd.i.r) hcap1 hcap2) (AllIn.sub (And.intro (by repeat first | exact .head _ | apply List.Mem.tail) (And.intro (by repeat first | exact .head _ | apply List.Mem.tail) trivial))) ?_
    rintro ⟨A3, c3⟩ hcap3
    dsimp only at hcap3
    dsimp only [List.cons_append, List.nil_append]
    refine LJ_y rfl rfl (YJ_move rfl) ?_
    refine LJ_callX rfl rfl rfl rfl rfl (nof_c hb.i) (AllIn.sub (by first | exact trivial | exact And.intro (by repeat first | exact .head _ | apply List.Mem.tail) trivial | exact And.intro (by repeat first | exact .head _ | apply List.Mem.tail) (And.intro (by repeat first | exact .head _ | apply List.Mem.tail) trivial))) ?_
    rintro ⟨A4, c4⟩ hcap4
    dsimp only at hcap4
    dsimp only [List.cons_append, List.nil_append]
    refine LJ_y rfl rfl (YJ_move rfl) ?_
    refine LJ_callX rfl rfl rfl rfl rfl (nof_c hc.i) (AllIn.sub (by first | exact trivial | exact And.intro (by repeat first | exact .head _ | apply List.Mem.tail) trivial | exact And.intro (by repeat first | exact .head _ | apply List.Mem.tail) (And.intro (by repeat first | exact .head _ | apply List.Mem.tail) trivial))) ?_
    rintro ⟨A5, c5⟩ hcap5
    dsimp only at hcap5
    dsimp only [List.cons_append, List.nil_append]
    refine LJ_callX rfl rfl rfl rfl rfl (nmul_c (dl_big hb.i.r) (dl_big hc.i.r) hcap4 hcap5) (AllIn.sub (And.intro (by repeat first | exact .head _ | apply List.Mem.tail) (And.intro (by repeat first | exact .head _ | apply List.Mem.tail) trivial))) ?_
    rintro ⟨A6, c6⟩ hcap6
    dsimp only at hcap6
    dsimp only [List.cons_append, List.nil_append]
    refine LJ_callX rfl rfl rfl rfl rfl (nsub_c (dl_big (mul_r62 ha hd)) (dl_big (mul_r62 hb hc)) hcap3 hcap6) (AllIn.sub (And.intro (by repeat first | exact .head _ | apply List.Mem.tail) (And.intro (by repeat first | exact .head _ | apply List.Mem.tail) trivial))) ?_
    rintro ⟨A7, c7⟩ hcap7
    dsimp only at hcap7
    dsimp only [List.cons_append, List.nil_append]
    refine LJ_alloc (cs := #[_, _]) rfl rfl zer_29 rfl ?_
    intro b2
    refine LJ_store (cs' := #[_, _]) (μ' := [_, _]) 0 rfl rfl rfl rfl tyi_29 rfl (Nat.le_of_ble_eq_true rfl) rfl rfl rfl ?_
    refine LJ_nil ?_
    refine QJ_then ?_
    refine CJ_seq ?_
    refine CJ_reg ?_
    refine LJ_y rfl rfl (YJ_move rfl) ?_
    refine LJ_y rfl rfl (YJ_move rfl) ?_
    refine LJ_y rfl rfl (YJ_move rfl) ?_
    refine LJ_y rfl rfl (YJ_move rfl) ?_
    refine LJ_callX rfl rfl rfl rfl rfl (wdet_c hc.i hd.i ha.i hb.i) (AllIn.sub (by first | exact trivial | exact And.intro (by repeat first | exact .head _ | apply List.Mem.tail) trivial | exact And.intro (by repeat first | exact .head _ | apply List.Mem.tail) (And.intro (by repeat first | exact .head _ | apply List.Mem.tail) trivial))) ?_
    rintro ⟨his, los⟩ s
    dsimp only [wvP, List.cons_append, List.nil_append] at s ⊢
    rw [if_pos (det_r hc hd ha hb)] at s
    refine LJ_callX rfl rfl rfl rfl rfl (wnum_c s (det_r hc hd ha hb)) (AllIn.sub (by first | exact trivial | exact And.intro (by repeat first | exact .head _ | apply List.Mem.tail) trivial | exact And.intro (by repeat first | exact .head _ | apply List.Mem.tail) (And.intro (by repeat first | exact .head _ | apply List.Mem.tail) trivial))) ?_
    rintro ⟨A8, c8⟩ hcap8
    dsimp only at hcap8
    dsimp only [List.cons_append, List.nil_append]
    refine LJ_callX rfl rfl rfl rfl rfl (nneg_c (Nat.le_trans (dl_r128 (det_r hc hd ha hb)) (by decide)) hcap8) (AllIn.sub (And.intro (by repeat first | exact .head _ | apply List.Mem.tail) trivial)) ?_
    rw [det_turn]
    rintro ⟨A9, c9⟩ hcap9
    dsimp only at hcap9
    dsimp only [List.cons_append, List.nil_append]
    refine LJ_alloc (cs := #[_, _]) rfl rfl zer_29 rfl ?_
    intro b3
    refine LJ_store (cs' := #[_, _]) (μ' := [_, _, _]) 0 rfl rfl rfl rfl tyi_29 rfl (Nat.le_of_ble_eq_true rfl) rfl rfl rfl ?_
    refine LJ_nil ?_
    refine QJ_then ?_
    refine CJ_seq ?_
    refine CJ_regD mix (by kernel_rfl) (fun _ _ _ _ _ h => h) _ _ (fun _ h => h) (fun _ h => h) ?_
    refine AJ_y 0 rfl (by kernel_rfl) (by kernel_rfl) rfl rfl (YJ_move rfl) ?_
    refine AJ_y 1 rfl (by kernel_rfl) (by kernel_rfl) rfl rfl (YJ_move rfl) ?_
    refine AJ_y 2 rfl (by kernel_rfl) (by kernel_rfl) rfl rfl (YJ_move rfl) ?_
    refine AJ_y 3 rfl (by kernel_rfl) (by kernel_rfl) rfl rfl (YJ_move rfl) ?_
    first | refine AJ_y 6 rfl (by kernel_rfl) (by kernel_rfl) rfl rfl (YJ_loadN (vs := [_, _]) rfl tyi_29 (by repeat first | exact .head _ | apply List.Mem.tail) rfl rfl) ?_ | refine AJ_y 6 rfl (by kernel_rfl) (by kernel_rfl) rfl rfl (YJ_loadFactN (vs := [_, _]) rfl tyi_29 (by repeat first | exact .head _ | apply List.Mem.tail) rfl rfl) ?_
    refine AJ_callX 4 rfl (by kernel_rfl) rfl rfl rfl rfl rfl (wdet_c ha.i hb.i hc.i hd.i) (AllIn.sub (by first | exact trivial | exact And.intro (by repeat first | exact .head _ | apply List.Mem.tail) trivial | exact And.intro (by repeat first | exact .head _ | apply List.Mem.tail) (And.intro (by repeat first | exact .head _ | apply List.Mem.tail) trivial))) ?_
    rintro ⟨hig, log⟩ g
    dsimp only [wvP, List.cons_append, List.nil_append] at g ⊢
    rw [if_pos (det_r ha hb hc hd)] at g
    refine AJ_callX 5 rfl (by kernel_rfl) rfl rfl rfl rfl rfl (wnum_c g (det_r ha hb hc hd)) (AllIn.sub (by first | exact trivial | exact And.intro (by repeat first | exact .head _ | apply List.Mem.tail) trivial | exact And.intro (by repeat first | exact .head _ | apply List.Mem.tail) (And.intro (by repeat first | exact .head _ | apply List.Mem.tail) trivial))) ?_
    rintro ⟨A10, c10⟩ hcap10
    dsimp only at hcap10
    dsimp only [List.cons_append, List.nil_append]
    refine AJ_call0 7 rfl (by kernel_rfl) rfl rfl rfl rfl rfl (ncmp_c (dl_big (det_r ha hb hc hd)) (dl_big (show R128 (a * d - b * c) from det_r ha hb hc hd)) hcap10 hcap7) (AllIn.sub (And.intro (by repeat first | exact .head _ | apply List.Mem.tail) (And.intro (by repeat first | exact .head _ | apply List.Mem.tail) trivial))) ?_
    refine AJ_y 8 rfl (by kernel_rfl) (by kernel_rfl) rfl rfl (YJ_bin rfl rfl rfl) ?_
    refine AJ_y 9 rfl (by kernel_rfl) (by kernel_rfl) rfl rfl (YJ_move rfl) ?_
    refine AJ_bool (c := true) (decide_eq_true (sgn_self _)) ?_
    first | refine AJ_y 10 rfl (by kernel_rfl) (by kernel_rfl) rfl rfl (YJ_loadN (vs := [_, _]) rfl tyi_29 (by repeat first | exact .head _ | apply List.Mem.tail) rfl rfl) ?_ | refine AJ_y 10 rfl (by kernel_rfl) (by kernel_rfl) rfl rfl (YJ_loadFactN (vs := [_, _]) rfl tyi_29 (by repeat first | exact .head _ | apply List.Mem.tail) rfl rfl) ?_
    first | refine AJ_y 11 rfl (by kernel_rfl) (by kernel_rfl) rfl rfl (YJ_loadN (vs := [_, _]) rfl tyi_29 (by repeat first | exact .head _ | apply List.Mem.tail) rfl rfl) ?_ | refine AJ_y 11 rfl (by kernel_rfl) (by kernel_rfl) rfl rfl (YJ_loadFactN (vs := [_, _]) rfl tyi_29 (by repeat first | exact .head _ | apply List.Mem.tail) rfl rfl) ?_
    refine AJ_call0 12 rfl (by kernel_rfl) rfl rfl rfl rfl rfl (ncmp_c (dl_big (show R128 (a * d - b * c) from det_r ha hb hc hd)) (dl_big (show R128 (a * d - b * c) from det_r ha hb hc hd)) hcap9 hcap7) (AllIn.sub (And.intro (by repeat first | exact .head _ | apply List.Mem.tail) (And.intro (by repeat first | exact .head _ | apply List.Mem.tail) trivial))) ?_
    refine AJ_y 13 rfl (by kernel_rfl) (by kernel_rfl) rfl rfl (YJ_bin rfl rfl rfl) ?_
    refine AJ_val (v := .bool true) (congrArg Value.bool (decide_eq_true (sgn_self _))) ?_
    refine AJ_y 14 rfl (by kernel_rfl) (by kernel_rfl) rfl rfl (YJ_pickT rfl rfl) ?_
    refine AJ_y 15 rfl (by kernel_rfl) (by kernel_rfl) rfl rfl (YJ_assign rfl) ?_
    refine AJ_done (by kernel_rfl) ?_
    refine QJ_then ?_
    refine CJ_ret ?_
    refine QJ_fin (.inl rfl) (μ' := []) (μr := _) (φ' := []) (res_tmp rfl rfl) (List.Perm.refl _) (fun _ h => nomatch h) ?_
    exact ⟨rfl, rfl, rfl⟩

end Go.Proofs.Ytggbdfnoehienaa
