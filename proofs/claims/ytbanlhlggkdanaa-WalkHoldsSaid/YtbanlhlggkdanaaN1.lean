/- The walks of the functions of num: each as what it does to a whole number. -/
import Derived.Test.YtbanlhlggkdanaaM5
set_option linter.unusedSimpArgs false
set_option linter.unusedVariables false
namespace Go.Proofs.Ytbanlhlggkdanaa
open Go.RowKit

theorem ent_77 : Enter Try.prog 77 = true := by kernel_rfl
theorem zer_100 : zer Try.prog 100 = some (.agg #[.bool false, .slice none 0 0]) := by kernel_rfl
theorem lay_100 : lay1 Try.prog 100 = some [.bool false, .slice none 0 0] := by kernel_rfl
theorem tyi_100 : tyi Try.prog 100 = some (true, 2) := by kernel_rfl
theorem ent_45 : Enter Try.prog 45 = true := by kernel_rfl
theorem ent_82 : Enter Try.prog 82 = true := by kernel_rfl
theorem fld_100_1 : fld Try.prog 100 1 = some 1 := by kernel_rfl
theorem tyi_98 : tyi Try.prog 98 = some (false, 1) := by kernel_rfl
theorem fld_100_0 : fld Try.prog 100 0 = some 0 := by kernel_rfl
theorem tyi_4 : tyi Try.prog 4 = some (false, 1) := by kernel_rfl
theorem ent_48 : Enter Try.prog 48 = true := by kernel_rfl


def dl (z : Int) : Nat := (digits z.natAbs).length
def numV (z : Int) (A : Option Addr) (c : Nat) : Value := .agg #[.bool (decide (z < 0)), .slice A (dl z) c]
abbrev numF (z : Int) (A : Option Addr) : Res := dF A z.natAbs
/-- a result that is a whole number -/
abbrev RetN (z : Int) : Value → List Res → List Res → Prop := RetX (fun x : Option Addr × Nat => dl z ≤ x.2) (fun x => numV z x.1 x.2) (fun _ => []) (fun x => [numF z x.1])
theorem numV_mk {z : Int} {s : Bool} {v : Nat} {A : Option Addr} {c : Nat} (h1 : s = decide (z < 0)) (h2 : z.natAbs = v) : Value.agg #[.bool s, .slice A (digits v).length c] = numV z A c := by
  subst h1; subst h2; rfl
theorem RetN_mk {z : Int} {s : Bool} {v : Nat} {A : Option Addr} {c : Nat} (h1 : s = decide (z < 0)) (h2 : z.natAbs = v) (h3 : (digits v).length ≤ c) : RetN z (.agg #[.bool s, .slice A (digits v).length c]) [] [dF A v] := by
  refine ⟨(A, c), ?_, numV_mk h1 h2, rfl, ?_⟩
  · subst h2; exact h3
  · subst h2; rfl
/-- a magnitude with a sign -/
def sg (s : Bool) (v : Nat) : Int := if s then -(v : Int) else v
theorem sg_abs (s : Bool) (v : Nat) : (sg s v).natAbs = v := by unfold sg; split <;> omega
theorem RetN.conv {z z' : Int} (h : z = z') {v : Value} {μ φ : List Res} (hr : RetN z v μ φ) : RetN z' v μ φ := by subst h; exact hr
theorem dl_le {z : Int} {k : Nat} (h : z.natAbs < BB ^ k) : dl z ≤ k := digits_len h
theorem val_abs (z : Int) : val (digits z.natAbs) = z.natAbs := val_digits _
theorem sgn_mul_b (a b : Int) : -9223372036854775808 ≤ sgn a * sgn b ∧ sgn a * sgn b ≤ 9223372036854775807 := by
  have h1 := sgn_cases a
  have h2 := sgn_cases b
  rcases h1 with ⟨_, h1⟩ | ⟨_, h1⟩ | ⟨_, h1⟩ <;> rcases h2 with ⟨_, h2⟩ | ⟨_, h2⟩ | ⟨_, h2⟩ <;> rw [h1, h2] <;> omega
theorem sgn_cmp {a b : Int} (h1 : ¬ sgn a < sgn b) (h2 : ¬ sgn b < sgn a) : sgn a * sgn ((a.natAbs : Int) - (b.natAbs : Int)) = sgn (a - b) := by
  have e1 := sgn_cases a
  have e2 := sgn_cases b
  have e3 := sgn_cases ((a.natAbs : Int) - (b.natAbs : Int))
  have e4 := sgn_cases (a - b)
  rcases e1 with ⟨_, e1⟩ | ⟨_, e1⟩ | ⟨_, e1⟩ <;> (rw [e1]; omega)
theorem sgn_lt_lt {a b : Int} (h : sgn a < sgn b) : a - b < 0 := by
  have e1 := sgn_cases a
  have e2 := sgn_cases b
  omega


set_option maxRecDepth 100000 in
set_option maxHeartbeats 1000000 in
theorem nmake_c {s : Bool} {A : Option Addr} {n c : Nat} {l : List Nat} (hn : n = l.length) (hw : W64 l) (hl : l.length ≤ 100000) (hc : l.length ≤ c) : Tri Try.prog 77 [.bool s, .slice A n c] [] [lF A l] (RetN (sg s (val l))) := by
  refine Tri_of (N := 15) Try.func77 rfl ent_77 rfl rfl ?_
  intro w0 S0 T0
  show CJ _ _ _ [(0, _), (1, _)] _ _
  refine CJ_seq ?_
  refine CJ_reg ?_
  refine LJ_alloc (cs := #[_, _]) rfl rfl zer_100 rfl ?_
  intro b1
  refine LJ_nil ?_
  refine QJ_then ?_
  refine CJ_seq ?_
  refine CJ_reg ?_
  refine LJ_y rfl rfl (YJ_move rfl) ?_
  refine LJ_newF (r' := lF none []) (sliceR_nil 1 none) ?_
  refine LJ_callX rfl rfl rfl rfl rfl (show Tri _ _ _ _ _ (RetM (val l)) from madd_c (r := []) hn rfl hw W64.nil hl (by simp) hc (by simp)) (AllIn.sub (by first | exact trivial | exact And.intro (by repeat first | exact .head _ | apply List.Mem.tail) trivial | exact And.intro (by repeat first | exact .head _ | apply List.Mem.tail) (And.intro (by repeat first | exact .head _ | apply List.Mem.tail) trivial))) ?_
  rintro ⟨A', c'⟩ hcap
  dsimp only at hcap
  dsimp only [List.cons_append, List.nil_append]
  refine LJ_y rfl rfl (YJ_assign rfl) ?_
  refine LJ_nil ?_
  refine QJ_then ?_
  refine CJ_seq ?_
  refine CJ_reg ?_
  refine LJ_y rfl rfl (YJ_move rfl) ?_
  refine LJ_y rfl rfl (YJ_move rfl) ?_
  refine LJ_boolC (fun h8 => ?_) (fun h8 => ?_)
  · try simp only [decide_eq_true_eq, decide_eq_false_iff_not, Bool.not_eq_true', Bool.not_eq_false', Bool.and_eq_true, Bool.and_eq_false_iff, beq_iff_eq, bne_iff_ne, beq_eq_false_iff_ne, bne_eq_false_iff_eq, ne_eq, decide_eq_decide] at h8
    subst h8
    refine LJ_y rfl rfl (YJ_move rfl) ?_
    refine LJ_y rfl rfl (YJ_len rfl ulen_98 rfl) ?_
    refine LJ_y rfl rfl (YJ_bin rfl rfl rfl) ?_
    refine LJ_y rfl rfl (YJ_pickT rfl rfl) ?_
    refine LJ_y rfl rfl (YJ_move rfl) ?_
    refine LJ_y rfl rfl (YJ_build1 (cs := [_, _]) lay_100 rfl rfl rfl) ?_
    refine LJ_store (cs' := #[_, _]) (μ' := [_]) 0 rfl rfl rfl rfl tyi_100 rfl (Nat.le_of_ble_eq_true rfl) rfl rfl rfl ?_
    refine LJ_nil ?_
    refine QJ_then ?_
    refine CJ_ret ?_
    refine QJ_fin (.inl rfl) (μ' := []) (μr := _) (φ' := [dF A' (val l)]) (res_cell (vs := [_, _]) rfl rfl (by repeat first | exact .head _ | apply List.Mem.tail) tyi_100 rfl) (List.Perm.refl _) (AllIn.sub (And.intro (.head _) trivial)) ?_
    exact RetN_mk (by unfold sg; have := digits_len_zero (v := val l); rw [if_pos rfl, decide_eq_decide]; omega) (sg_abs _ _) hcap
  · try simp only [decide_eq_true_eq, decide_eq_false_iff_not, Bool.not_eq_true', Bool.not_eq_false', Bool.and_eq_true, Bool.and_eq_false_iff, beq_iff_eq, bne_iff_ne, beq_eq_false_iff_ne, bne_eq_false_iff_eq, ne_eq, decide_eq_decide] at h8
    subst h8
    refine LJ_skip rfl rfl ?_
    refine LJ_skip rfl rfl ?_
    refine LJ_skip rfl rfl ?_
    refine LJ_y rfl rfl (YJ_pickF rfl rfl) ?_
    refine LJ_y rfl rfl (YJ_move rfl) ?_
    refine LJ_y rfl rfl (YJ_build1 (cs := [_, _]) lay_100 rfl rfl rfl) ?_
    refine LJ_store (cs' := #[_, _]) (μ' := [_]) 0 rfl rfl rfl rfl tyi_100 rfl (Nat.le_of_ble_eq_true rfl) rfl rfl rfl ?_
    refine LJ_nil ?_
    refine QJ_then ?_
    refine CJ_ret ?_
    refine QJ_fin (.inl rfl) (μ' := []) (μr := _) (φ' := [dF A' (val l)]) (res_cell (vs := [_, _]) rfl rfl (by repeat first | exact .head _ | apply List.Mem.tail) tyi_100 rfl) (List.Perm.refl _) (AllIn.sub (And.intro (.head _) trivial)) ?_
    exact RetN_mk (by unfold sg; rw [if_neg (by simp)]; have h0 : ¬ ((val l : Nat) : Int) < 0 := (by omega); rw [decide_eq_false h0]) (sg_abs _ _) hcap

set_option maxRecDepth 100000 in
set_option maxHeartbeats 1000000 in
theorem nof_c {z : Int} (h : I64 z) : Tri Try.prog 45 [.int .i64 z] [] [] (RetN z) := by
  refine Tri_of (N := 14) Try.func45 rfl ent_45 rfl rfl ?_
  intro w0 S0 T0
  show CJ _ _ _ [(0, _)] _ _
  unfold I64 at h
  have hb : z.natAbs < BB := by unfold BB; omega
  refine CJ_seq ?_
  refine CJ_reg ?_
  refine LJ_alloc (cs := #[_, _]) rfl rfl zer_100 rfl ?_
  intro b1
  refine LJ_nil ?_
  refine QJ_then ?_
  refine CJ_seq ?_
  refine CJ_seq ?_
  refine CJ_reg ?_
  refine LJ_y rfl rfl (YJ_move rfl) ?_
  refine LJ_y rfl rfl (YJ_bin rfl rfl rfl) ?_
  refine LJ_nil ?_
  refine QJ_then ?_
  refine CJ_cond rfl (fun h4 => ?_) (fun h4 => ?_)
  · try simp only [decide_eq_true_eq, decide_eq_false_iff_not, Bool.not_eq_true', Bool.not_eq_false', Bool.and_eq_true, Bool.and_eq_false_iff, beq_iff_eq, bne_iff_ne, beq_eq_false_iff_ne, bne_eq_false_iff_eq, ne_eq, decide_eq_decide] at h4
    refine CJ_seq ?_
    refine CJ_reg ?_
    refine LJ_y rfl rfl (YJ_move rfl) ?_
    refine LJ_y rfl rfl (YJ_convII rfl und_3 uint_108) ?_
    refine LJ_y rfl rfl (YJ_neg rfl rfl) ?_
    refine LJ_val (v := .int .u64 ((z.natAbs : Nat) : Int)) (congrArg (Value.int .u64) (by (first | rw [IntKind.wrap_u64, IntKind.wrap_u64] | rw [IntKind.wrap_u64]); omega)) ?_
    refine LJ_callX rfl rfl rfl rfl rfl (mof_c hb) (AllIn.sub (by first | exact trivial | exact And.intro (by repeat first | exact .head _ | apply List.Mem.tail) trivial | exact And.intro (by repeat first | exact .head _ | apply List.Mem.tail) (And.intro (by repeat first | exact .head _ | apply List.Mem.tail) trivial))) ?_
    rintro ⟨A, c⟩ hcap
    dsimp only at hcap
    dsimp only [List.cons_append, List.nil_append]
    refine LJ_y rfl rfl (YJ_build1 (cs := [_, _]) lay_100 rfl rfl rfl) ?_
    refine LJ_store (cs' := #[_, _]) (μ' := [_]) 0 rfl rfl rfl rfl tyi_100 rfl (Nat.le_of_ble_eq_true rfl) rfl rfl rfl ?_
    refine LJ_nil ?_
    refine QJ_then ?_
    refine CJ_ret ?_
    refine QJ_then_ret ?_
    refine QJ_fin (.inl rfl) (μ' := []) (μr := _) (φ' := [dF A z.natAbs]) (res_cell (vs := [_, _]) rfl rfl (by repeat first | exact .head _ | apply List.Mem.tail) tyi_100 rfl) (List.Perm.refl _) (AllIn.sub (And.intro (.head _) trivial)) ?_
    exact RetN_mk (by rw [decide_eq_true h4]) rfl hcap
  · try simp only [decide_eq_true_eq, decide_eq_false_iff_not, Bool.not_eq_true', Bool.not_eq_false', Bool.and_eq_true, Bool.and_eq_false_iff, beq_iff_eq, bne_iff_ne, beq_eq_false_iff_ne, bne_eq_false_iff_eq, ne_eq, decide_eq_decide] at h4
    refine CJ_skip ?_
    refine QJ_then ?_
    refine CJ_seq ?_
    refine CJ_reg ?_
    refine LJ_y rfl rfl (YJ_move rfl) ?_
    refine LJ_y rfl rfl (YJ_convII rfl und_3 uint_108) ?_
    refine LJ_val (v := .int .u64 ((z.natAbs : Nat) : Int)) (congrArg (Value.int .u64) (by rw [IntKind.wrap_u64]; omega)) ?_
    refine LJ_callX rfl rfl rfl rfl rfl (mof_c hb) (AllIn.sub (by first | exact trivial | exact And.intro (by repeat first | exact .head _ | apply List.Mem.tail) trivial | exact And.intro (by repeat first | exact .head _ | apply List.Mem.tail) (And.intro (by repeat first | exact .head _ | apply List.Mem.tail) trivial))) ?_
    rintro ⟨A, c⟩ hcap
    dsimp only at hcap
    dsimp only [List.cons_append, List.nil_append]
    refine LJ_y rfl rfl (YJ_build1 (cs := [_, _]) lay_100 rfl rfl rfl) ?_
    refine LJ_store (cs' := #[_, _]) (μ' := [_]) 0 rfl rfl rfl rfl tyi_100 rfl (Nat.le_of_ble_eq_true rfl) rfl rfl rfl ?_
    refine LJ_nil ?_
    refine QJ_then ?_
    refine CJ_ret ?_
    refine QJ_fin (.inl rfl) (μ' := []) (μr := _) (φ' := [dF A z.natAbs]) (res_cell (vs := [_, _]) rfl rfl (by repeat first | exact .head _ | apply List.Mem.tail) tyi_100 rfl) (List.Perm.refl _) (AllIn.sub (And.intro (.head _) trivial)) ?_
    exact RetN_mk (by rw [decide_eq_false h4]) rfl hcap

set_option maxRecDepth 100000 in
set_option maxHeartbeats 1000000 in
theorem nsign_c {z : Int} {A : Option Addr} {c : Nat} (hz : dl z ≤ 100000) (hc : dl z ≤ c) : Tri Try.prog 82 [numV z A c] [] [numF z A] (Ret0 (.int .i64 (sgn z))) := by
  refine Tri_of (N := 11) Try.func82 rfl ent_82 rfl rfl ?_
  intro w0 S0 T0
  show CJ _ _ _ [(0, _)] _ _
  unfold dl at hz hc
  refine CJ_seq ?_
  refine CJ_reg ?_
  refine LJ_box (cs := #[_, _]) rfl rfl rfl rfl ?_
  intro b1
  refine LJ_y rfl rfl (YJ_assign rfl) ?_
  refine LJ_nil ?_
  refine QJ_then ?_
  refine CJ_seq ?_
  refine CJ_block ?_
  refine CJ_seq ?_
  refine CJ_reg ?_
  first | refine LJ_y rfl rfl (YJ_fieldOwn rfl fld_100_1 rfl) ?_ | refine LJ_y rfl rfl (YJ_fieldAddr rfl fld_100_1) ?_
  first | refine LJ_y rfl rfl (YJ_loadL rfl tyi_98 (by repeat first | exact .head _ | apply List.Mem.tail) rfl) ?_ | refine LJ_y rfl rfl (YJ_loadFact rfl tyi_98 (by repeat first | exact .head _ | apply List.Mem.tail) rfl) ?_
  refine LJ_callX rfl rfl rfl rfl rfl (mlen_c (l := digits z.natAbs) rfl (digits_w _) (by omega) (by omega)) (AllIn.sub (by first | exact trivial | exact And.intro (by repeat first | exact .head _ | apply List.Mem.tail) trivial | exact And.intro (by repeat first | exact .head _ | apply List.Mem.tail) (And.intro (by repeat first | exact .head _ | apply List.Mem.tail) trivial))) ?_
  rintro r ⟨hr1, hr2⟩
  dsimp only [List.nil_append]
  rw [val_digits] at hr1
  refine LJ_y rfl rfl (YJ_bin rfl rfl rfl) ?_
  refine LJ_y rfl rfl (YJ_assign rfl) ?_
  refine LJ_nil ?_
  refine QJ_then ?_
  refine CJ_cond rfl (fun h3 => ?_) (fun h3 => ?_)
  · try simp only [decide_eq_true_eq, decide_eq_false_iff_not, Bool.not_eq_true', Bool.not_eq_false', Bool.and_eq_true, Bool.and_eq_false_iff, beq_iff_eq, bne_iff_ne, beq_eq_false_iff_ne, bne_eq_false_iff_eq, ne_eq, decide_eq_decide] at h3
    refine CJ_seq ?_
    refine CJ_reg ?_
    refine LJ_y rfl rfl (YJ_assign rfl) ?_
    refine LJ_nil ?_
    refine QJ_then ?_
    refine CJ_ret ?_
    refine QJ_in_ret ?_
    refine QJ_then_ret ?_
    refine QJ_fin (.inl rfl) (μ' := []) (μr := _) (φ' := []) (res_tmp rfl rfl) (List.Perm.refl _) (fun _ h => nomatch h) ?_
    exact ⟨congrArg (Value.int .i64) (by have := val_abs z; first | exact (sgn_lt (by omega)).symm | exact (sgn_eq (by omega)).symm | exact (sgn_gt (by omega)).symm), rfl, rfl⟩
  · try simp only [decide_eq_true_eq, decide_eq_false_iff_not, Bool.not_eq_true', Bool.not_eq_false', Bool.and_eq_true, Bool.and_eq_false_iff, beq_iff_eq, bne_iff_ne, beq_eq_false_iff_ne, bne_eq_false_iff_eq, ne_eq, decide_eq_decide] at h3
    refine CJ_seq ?_
    refine CJ_reg ?_
    first | refine LJ_y rfl rfl (YJ_fieldOwn rfl fld_100_0 rfl) ?_ | refine LJ_y rfl rfl (YJ_fieldAddr rfl fld_100_0) ?_
    first | refine LJ_y rfl rfl (YJ_loadL rfl tyi_4 (by repeat first | exact .head _ | apply List.Mem.tail) rfl) ?_ | refine LJ_y rfl rfl (YJ_loadFact rfl tyi_4 (by repeat first | exact .head _ | apply List.Mem.tail) rfl) ?_
    refine LJ_y rfl rfl (YJ_assign rfl) ?_
    refine LJ_nil ?_
    refine QJ_then ?_
    refine CJ_cond rfl (fun h8 => ?_) (fun h8 => ?_)
    · try simp only [decide_eq_true_eq, decide_eq_false_iff_not, Bool.not_eq_true', Bool.not_eq_false', Bool.and_eq_true, Bool.and_eq_false_iff, beq_iff_eq, bne_iff_ne, beq_eq_false_iff_ne, bne_eq_false_iff_eq, ne_eq, decide_eq_decide] at h8
      refine CJ_seq ?_
      refine CJ_reg ?_
      refine LJ_y rfl rfl (YJ_assign rfl) ?_
      refine LJ_nil ?_
      refine QJ_then ?_
      refine CJ_ret ?_
      refine QJ_in_ret ?_
      refine QJ_then_ret ?_
      refine QJ_fin (.inl rfl) (μ' := []) (μr := _) (φ' := []) (res_tmp rfl rfl) (List.Perm.refl _) (fun _ h => nomatch h) ?_
      exact ⟨congrArg (Value.int .i64) (by have := val_abs z; first | exact (sgn_lt (by omega)).symm | exact (sgn_eq (by omega)).symm | exact (sgn_gt (by omega)).symm), rfl, rfl⟩
    · try simp only [decide_eq_true_eq, decide_eq_false_iff_not, Bool.not_eq_true', Bool.not_eq_false', Bool.and_eq_true, Bool.and_eq_false_iff, beq_iff_eq, bne_iff_ne, beq_eq_false_iff_ne, bne_eq_false_iff_eq, ne_eq, decide_eq_decide] at h8
      refine CJ_skip ?_
      refine QJ_in_normal ?_
      refine QJ_then ?_
      refine CJ_seq ?_
      refine CJ_reg ?_
      refine LJ_y rfl rfl (YJ_assign rfl) ?_
      refine LJ_nil ?_
      refine QJ_then ?_
      refine CJ_ret ?_
      refine QJ_fin (.inl rfl) (μ' := []) (μr := _) (φ' := []) (res_tmp rfl rfl) (List.Perm.refl _) (fun _ h => nomatch h) ?_
      exact ⟨congrArg (Value.int .i64) (by have := val_abs z; first | exact (sgn_lt (by omega)).symm | exact (sgn_eq (by omega)).symm | exact (sgn_gt (by omega)).symm), rfl, rfl⟩

set_option maxRecDepth 100000 in
set_option maxHeartbeats 1000000 in
theorem ncmp_c {a b : Int} {A B : Option Addr} {c d : Nat} (ha : dl a ≤ 40000) (hb : dl b ≤ 40000) (hc : dl a ≤ c) (hd : dl b ≤ d) : Tri Try.prog 48 [numV a A c, numV b B d] [] [numF a A, numF b B] (Ret0 (.int .i64 (sgn (a - b)))) := by
  refine Tri_of (N := 26) Try.func48 rfl ent_48 rfl rfl ?_
  intro w0 S0 T0
  show CJ _ _ _ [(0, _), (1, _)] _ _
  refine CJ_seq ?_
  refine CJ_reg ?_
  refine LJ_box (cs := #[_, _]) rfl rfl rfl rfl ?_
  intro b1
  refine LJ_box (cs := #[_, _]) rfl rfl rfl rfl ?_
  intro b2
  refine LJ_y rfl rfl (YJ_assign rfl) ?_
  refine LJ_nil ?_
  refine QJ_then ?_
  refine CJ_seq ?_
  refine CJ_regD mix (by kernel_rfl) (fun _ _ _ _ _ h => h) _ _ (fun _ h => h) (fun _ h => h) ?_
  first | refine AJ_y 0 rfl (by kernel_rfl) (by kernel_rfl) rfl rfl (YJ_loadN (vs := [_, _]) rfl tyi_100 (by repeat first | exact .head _ | apply List.Mem.tail) rfl rfl) ?_ | refine AJ_y 0 rfl (by kernel_rfl) (by kernel_rfl) rfl rfl (YJ_loadFactN (vs := [_, _]) rfl tyi_100 (by repeat first | exact .head _ | apply List.Mem.tail) rfl rfl) ?_
  first | refine AJ_y 2 rfl (by kernel_rfl) (by kernel_rfl) rfl rfl (YJ_loadN (vs := [_, _]) rfl tyi_100 (by repeat first | exact .head _ | apply List.Mem.tail) rfl rfl) ?_ | refine AJ_y 2 rfl (by kernel_rfl) (by kernel_rfl) rfl rfl (YJ_loadFactN (vs := [_, _]) rfl tyi_100 (by repeat first | exact .head _ | apply List.Mem.tail) rfl rfl) ?_
  refine AJ_call0 1 rfl (by kernel_rfl) rfl rfl rfl rfl rfl (nsign_c (z := a) (A := A) (c := c) (by omega) hc) (AllIn.sub (And.intro (by repeat first | exact .head _ | apply List.Mem.tail) trivial)) ?_
  refine AJ_call0 3 rfl (by kernel_rfl) rfl rfl rfl rfl rfl (nsign_c (z := b) (A := B) (c := d) (by omega) hd) (AllIn.sub (And.intro (by repeat first | exact .head _ | apply List.Mem.tail) trivial)) ?_
  refine AJ_y 4 rfl (by kernel_rfl) (by kernel_rfl) rfl rfl (YJ_assign rfl) ?_
  refine AJ_y 5 rfl (by kernel_rfl) (by kernel_rfl) rfl rfl (YJ_assign rfl) ?_
  refine AJ_done (by kernel_rfl) ?_
  refine QJ_then ?_
  refine CJ_seq ?_
  refine CJ_block ?_
  refine CJ_seq ?_
  refine CJ_reg ?_
  refine LJ_y rfl rfl (YJ_move rfl) ?_
  refine LJ_y rfl rfl (YJ_move rfl) ?_
  refine LJ_y rfl rfl (YJ_bin rfl rfl rfl) ?_
  refine LJ_y rfl rfl (YJ_assign rfl) ?_
  refine LJ_nil ?_
  refine QJ_then ?_
  refine CJ_cond rfl (fun h11 => ?_) (fun h11 => ?_)
  · try simp only [decide_eq_true_eq, decide_eq_false_iff_not, Bool.not_eq_true', Bool.not_eq_false', Bool.and_eq_true, Bool.and_eq_false_iff, beq_iff_eq, bne_iff_ne, beq_eq_false_iff_ne, bne_eq_false_iff_eq, ne_eq, decide_eq_decide] at h11
    refine CJ_seq ?_
    refine CJ_reg ?_
    refine LJ_y rfl rfl (YJ_assign rfl) ?_
    refine LJ_nil ?_
    refine QJ_then ?_
    refine CJ_ret ?_
    refine QJ_in_ret ?_
    refine QJ_then_ret ?_
    refine QJ_fin (.inl rfl) (μ' := []) (μr := _) (φ' := []) (res_tmp rfl rfl) (List.Perm.refl _) (fun _ h => nomatch h) ?_
    exact ⟨congrArg (Value.int .i64) (sgn_lt (sgn_lt_lt h11)).symm, rfl, rfl⟩
  · try simp only [decide_eq_true_eq, decide_eq_false_iff_not, Bool.not_eq_true', Bool.not_eq_false', Bool.and_eq_true, Bool.and_eq_false_iff, beq_iff_eq, bne_iff_ne, beq_eq_false_iff_ne, bne_eq_false_iff_eq, ne_eq, decide_eq_decide] at h11
    refine CJ_seq ?_
    refine CJ_reg ?_
    refine LJ_y rfl rfl (YJ_move rfl) ?_
    refine LJ_y rfl rfl (YJ_move rfl) ?_
    refine LJ_y rfl rfl (YJ_bin rfl rfl rfl) ?_
    refine LJ_y rfl rfl (YJ_assign rfl) ?_
    refine LJ_nil ?_
    refine QJ_then ?_
    refine CJ_cond rfl (fun h15 => ?_) (fun h15 => ?_)
    · try simp only [decide_eq_true_eq, decide_eq_false_iff_not, Bool.not_eq_true', Bool.not_eq_false', Bool.and_eq_true, Bool.and_eq_false_iff, beq_iff_eq, bne_iff_ne, beq_eq_false_iff_ne, bne_eq_false_iff_eq, ne_eq, decide_eq_decide] at h15
      refine CJ_seq ?_
      refine CJ_reg ?_
      refine LJ_y rfl rfl (YJ_assign rfl) ?_
      refine LJ_nil ?_
      refine QJ_then ?_
      refine CJ_ret ?_
      refine QJ_in_ret ?_
      refine QJ_then_ret ?_
      refine QJ_fin (.inl rfl) (μ' := []) (μr := _) (φ' := []) (res_tmp rfl rfl) (List.Perm.refl _) (fun _ h => nomatch h) ?_
      exact ⟨congrArg (Value.int .i64) (sgn_gt (by have := sgn_lt_lt h15; omega)).symm, rfl, rfl⟩
    · try simp only [decide_eq_true_eq, decide_eq_false_iff_not, Bool.not_eq_true', Bool.not_eq_false', Bool.and_eq_true, Bool.and_eq_false_iff, beq_iff_eq, bne_iff_ne, beq_eq_false_iff_ne, bne_eq_false_iff_eq, ne_eq, decide_eq_decide] at h15
      refine CJ_skip ?_
      refine QJ_in_normal ?_
      refine QJ_then ?_
      refine CJ_seq ?_
      refine CJ_reg ?_
      refine LJ_y rfl rfl (YJ_move rfl) ?_
      first | refine LJ_y rfl rfl (YJ_fieldOwn rfl fld_100_1 rfl) ?_ | refine LJ_y rfl rfl (YJ_fieldAddr rfl fld_100_1) ?_
      first | refine LJ_y rfl rfl (YJ_loadL rfl tyi_98 (by repeat first | exact .head _ | apply List.Mem.tail) rfl) ?_ | refine LJ_y rfl rfl (YJ_loadFact rfl tyi_98 (by repeat first | exact .head _ | apply List.Mem.tail) rfl) ?_
      first | refine LJ_y rfl rfl (YJ_fieldOwn rfl fld_100_1 rfl) ?_ | refine LJ_y rfl rfl (YJ_fieldAddr rfl fld_100_1) ?_
      first | refine LJ_y rfl rfl (YJ_loadL rfl tyi_98 (by repeat first | exact .head _ | apply List.Mem.tail) rfl) ?_ | refine LJ_y rfl rfl (YJ_loadFact rfl tyi_98 (by repeat first | exact .head _ | apply List.Mem.tail) rfl) ?_
      refine LJ_call0 rfl rfl rfl rfl rfl (mcmp_c (l := digits a.natAbs) (r := digits b.natAbs) rfl rfl (digits_w _) (digits_w _) (by unfold dl at ha; omega) (by unfold dl at hb; omega) hc hd) (AllIn.sub (And.intro (by repeat first | exact .head _ | apply List.Mem.tail) (And.intro (by repeat first | exact .head _ | apply List.Mem.tail) trivial))) ?_
      rw [val_digits, val_digits]
      refine LJ_y rfl rfl (YJ_bin rfl rfl (iop_mul (sgn_mul_b _ _))) ?_
      refine LJ_y rfl rfl (YJ_assign rfl) ?_
      refine LJ_nil ?_
      refine QJ_then ?_
      refine CJ_ret ?_
      refine QJ_fin (.inl rfl) (μ' := []) (μr := _) (φ' := []) (res_tmp rfl rfl) (List.Perm.refl _) (fun _ h => nomatch h) ?_
      exact ⟨congrArg (Value.int .i64) (sgn_cmp h11 h15), rfl, rfl⟩

end Go.Proofs.Ytbanlhlggkdanaa
