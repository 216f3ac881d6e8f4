/- The walks of the functions of wide: each as what it does to a whole number. -/
import Derived.Test.YtbanlhlggkdanaaRows
import Derived.Test.YtbanlhlggkdanaaOps
import Derived.Test.YtbanlhlggkdanaaShelf
import Derived.Laws.Externs
import Derived.Shelf.Spec.BitsCarry
set_option linter.unusedSimpArgs false
set_option linter.unusedVariables false
namespace Go.Proofs.Ytbanlhlggkdanaa
open Go.RowKit

theorem ent_83 : Enter Try.prog 83 = true := by kernel_rfl
theorem fld_110_0 : fld Try.prog 110 0 = some 0 := by kernel_rfl
theorem tyi_108 : tyi Try.prog 108 = some (false, 1) := by kernel_rfl
theorem ent_101 : Enter Try.prog 101 = true := by kernel_rfl
theorem zer_110 : zer Try.prog 110 = some (.agg #[.int .u64 0, .int .u64 0]) := by kernel_rfl
theorem fld_110_1 : fld Try.prog 110 1 = some 1 := by kernel_rfl
theorem lay_110 : lay1 Try.prog 110 = some [.int .u64 0, .int .u64 0] := by kernel_rfl
theorem tyi_110 : tyi Try.prog 110 = some (true, 2) := by kernel_rfl
theorem ent_107 : Enter Try.prog 107 = true := by kernel_rfl
theorem und_3 : (Try.prog.underlying 3).isSome = true := by kernel_rfl
theorem uint_108 : Try.prog.underlying 108 = some (.int .u64) := by kernel_rfl
theorem ent_128 : Enter Try.prog 128 = true := by kernel_rfl
theorem ent_91 : Enter Try.prog 91 = true := by kernel_rfl
theorem ubool_4 : Try.prog.underlying 4 = some .bool := by kernel_rfl


/-- a number's two words -/
def IsW (hi lo n : Int) : Prop := hi = n / 18446744073709551616 % 18446744073709551616 ∧ lo = n % 18446744073709551616
/-- a number of 128 bits -/
def R128 (n : Int) : Prop := -170141183460469231731687303715884105728 ≤ n ∧ n < 170141183460469231731687303715884105728
instance (n : Int) : Decidable (R128 n) := inferInstanceAs (Decidable (_ ∧ _))
def I64 (n : Int) : Prop := -9223372036854775808 ≤ n ∧ n ≤ 9223372036854775807
def wvP (x : Int × Int) : Value := .agg #[.int .u64 x.1, .int .u64 x.2]
/-- a result that is a wide number -/
abbrev RetW (n : Int) : Value → List Res → List Res → Prop := RetX (fun x : Int × Int => IsW x.1 x.2 n) wvP (fun _ => []) (fun _ => [])
/-- a result that is one of these numbers, or none -/
abbrev RetWo (n : Int) : Value → List Res → List Res → Prop := RetX (fun x : Int × Int => IsW x.1 x.2 (if R128 n then n else 0)) (fun x => .tuple #[wvP x, .bool (decide (R128 n))]) (fun _ => []) (fun _ => [])

theorem IsW.b {hi lo n : Int} (h : IsW hi lo n) : 0 ≤ hi ∧ hi < 18446744073709551616 ∧ 0 ≤ lo ∧ lo < 18446744073709551616 := by
  unfold IsW at h; omega
theorem IsW.neg {hi lo n : Int} (h : IsW hi lo n) (hr : R128 n) : (hi / 9223372036854775808 = 1) ↔ n < 0 := by
  unfold IsW at h; unfold R128 at hr; omega
theorem IsW.zero {hi lo n : Int} (h : IsW hi lo n) (hr : R128 n) : (hi = 0 ∧ lo = 0) ↔ n = 0 := by
  unfold IsW at h; unfold R128 at hr; omega
theorem IsW.ext {hi lo hi' lo' n n' : Int} (h : IsW hi lo n) (hr : R128 n) (h' : IsW hi' lo' n') (hr' : R128 n') : (hi = hi' ∧ lo = lo') ↔ n = n' := by
  unfold IsW at h h'; unfold R128 at hr hr'; omega

theorem add64_run (x y c : Int) (hx : 0 ≤ x) (hy : 0 ≤ y) (hc0 : 0 ≤ c) (hc : c ≤ 1) (w : World) :
    (callFunc 99 [.int .u64 x, .int .u64 y, .int .u64 c].toArray).run Try.prog w =
      .ok (.value (.tuple #[.int .u64 ((x + y + c) % 18446744073709551616), .int .u64 ((x + y + c) / 18446744073709551616)])) w := by
  rw [run_callFunc_extern Try.func99 (by kernel_rfl) (by kernel_rfl) (by kernel_rfl) (e := add64Entry) (by kernel_rfl)]
  have := run_add64 (P := Try.prog) x y c hx hy hc0 hc w
  show ((add64Entry #[.int .u64 x, .int .u64 y, .int .u64 c]).run Try.prog w).andThen _ = _
  rw [this]
  simp only [Result.andThen]
theorem sub64_run (x y c : Int) (hx : 0 ≤ x) (hy : 0 ≤ y) (hc0 : 0 ≤ c) (hc : c ≤ 1) (w : World) :
    (callFunc 100 [.int .u64 x, .int .u64 y, .int .u64 c].toArray).run Try.prog w =
      .ok (.value (.tuple #[.int .u64 (((x.toNat + 18446744073709551616 - y.toNat - c.toNat) % 18446744073709551616 : Nat) : Int), .int .u64 ((if x.toNat < y.toNat + c.toNat then 1 else 0 : Nat) : Int)])) w := by
  rw [run_callFunc_extern Try.func100 (by kernel_rfl) (by kernel_rfl) (by kernel_rfl) (e := sub64Entry) (by kernel_rfl)]
  have := run_sub64 (P := Try.prog) x.toNat y.toNat c.toNat (by omega) w
  have e1 : ((x.toNat : Nat) : Int) = x := by omega
  have e2 : ((y.toNat : Nat) : Int) = y := by omega
  have e3 : ((c.toNat : Nat) : Int) = c := by omega
  rw [e1, e2, e3] at this
  show ((sub64Entry #[.int .u64 x, .int .u64 y, .int .u64 c]).run Try.prog w).andThen _ = _
  rw [this]
  simp only [Result.andThen]
theorem sub64_run' (x y c : Int) (hx : 0 ≤ x) (hx1 : x < 18446744073709551616) (hy : 0 ≤ y) (hy1 : y < 18446744073709551616) (hc0 : 0 ≤ c) (hc : c ≤ 1) (w : World) :
    (callFunc 100 [.int .u64 x, .int .u64 y, .int .u64 c].toArray).run Try.prog w =
      .ok (.value (.tuple #[.int .u64 ((x - y - c) % 18446744073709551616), .int .u64 (-((x - y - c) / 18446744073709551616))])) w := by
  rw [sub64_run x y c hx hy hc0 hc w]
  have e1 : (((x.toNat + 18446744073709551616 - y.toNat - c.toNat) % 18446744073709551616 : Nat) : Int) = (x - y - c) % 18446744073709551616 := by omega
  have e2 : ((if x.toNat < y.toNat + c.toNat then 1 else 0 : Nat) : Int) = -((x - y - c) / 18446744073709551616) := by
    by_cases h : x.toNat < y.toNat + c.toNat
    · rw [if_pos h]; omega
    · rw [if_neg h]; omega
  rw [e1, e2]
theorem mul64_c (x y : Int) (hx : 0 ≤ x) (hx1 : x < 18446744073709551616) (hy : 0 ≤ y) (hy1 : y < 18446744073709551616) :
    Tri Try.prog 106 [.int .u64 x, .int .u64 y] [] [] (Ret0 (.tuple #[.int .u64 (x * y / 18446744073709551616), .int .u64 (x * y % 18446744073709551616)])) := by
  refine Tri_of_calls (by kernel_rfl) fun w => ?_
  have := Try.bits_Mul64 x.toNat y.toNat (by omega) (by omega) w
  have e1 : ((x.toNat : Nat) : Int) = x := by omega
  have e2 : ((y.toNat : Nat) : Int) = y := by omega
  rw [e1, e2] at this
  have e3 : ((x.toNat * y.toNat : Nat) : Int) = x * y := by rw [Int.natCast_mul, e1, e2]
  rw [show ((x.toNat * y.toNat / 18446744073709551616 : Nat) : Int) = x * y / 18446744073709551616 from by rw [← e3]; omega,
    show ((x.toNat * y.toNat % 18446744073709551616 : Nat) : Int) = x * y % 18446744073709551616 from by rw [← e3]; omega] at this
  exact this
theorem len64_c (x : Int) (h0 : 0 ≤ x) (h1 : x < 18446744073709551616) : Tri Try.prog 119 [.int .u64 x] [] [] (Ret0 (.int .i64 (Lib.bitLen x.toNat))) :=
  Tri_of_calls (by kernel_rfl) fun w => Try.bits_Len64 x w h0 (by omega)
theorem eqs_eql_110 (a b c d : Int) (x y : Operand) (w : World) :
    (do eqGuard .eql 110 x y (.agg #[.int .u64 a, .int .u64 b]) (.agg #[.int .u64 c, .int .u64 d]); binOp .eql 110 (.agg #[.int .u64 a, .int .u64 b]) (.agg #[.int .u64 c, .int .u64 d]) : Sem Value).run Try.prog w = .ok (.bool (decide (a = c) && decide (b = d))) w := by
  have hf : Try.prog.underlying 110 = some (.struct (Try.prog.fieldsOf 110)) := by kernel_rfl
  simp only [Sem.run_bind]
  rw [run_eqGuard_agg w .eql 110 x y _ _ (by kernel_rfl)]
  simp only [Result.andThen_ok, run_eql_struct]
  rw [show (10000 : Nat) = 9999 + 1 from rfl, run_equalIn_agg w 9999 110 _ _ hf (by kernel_rfl)]
  simp [go_sem]
  by_cases h1 : a = c <;> by_cases h2 : b = d <;> simp [h1, h2]
theorem pabs (n m : Int) : (n.natAbs : Int) * (m.natAbs : Int) = if (n < 0) ↔ (m < 0) then n * m else -(n * m) := by
  by_cases hn : n < 0 <;> by_cases hm : m < 0
  · rw [if_pos (by omega), show (n.natAbs : Int) = -n by omega, show (m.natAbs : Int) = -m by omega, Int.neg_mul_neg]
  · rw [if_neg (by omega), show (n.natAbs : Int) = -n by omega, show (m.natAbs : Int) = m by omega, Int.neg_mul]
  · rw [if_neg (by omega), show (n.natAbs : Int) = n by omega, show (m.natAbs : Int) = -m by omega, Int.mul_neg]
  · rw [if_pos (by omega), show (n.natAbs : Int) = n by omega, show (m.natAbs : Int) = m by omega]
theorem pabs_b {n m : Int} (hn : I64 n) (hm : I64 m) : 0 ≤ (n.natAbs : Int) * (m.natAbs : Int) ∧ (n.natAbs : Int) * (m.natAbs : Int) ≤ 85070591730234615865843651857942052864 := by
  unfold I64 at hn hm
  have h1 : (n.natAbs : Int) ≤ 9223372036854775808 := by omega
  have h2 : (m.natAbs : Int) ≤ 9223372036854775808 := by omega
  have h3 : (0 : Int) ≤ n.natAbs := by omega
  have h4 : (0 : Int) ≤ m.natAbs := by omega
  have := Int.mul_le_mul h1 h2 h4 (by omega)
  exact ⟨Int.mul_nonneg h3 h4, by omega⟩
theorem isW_words {p : Int} (h0 : 0 ≤ p) (h1 : p ≤ 85070591730234615865843651857942052864) : IsW (p / 18446744073709551616) (p % 18446744073709551616) p := by
  unfold IsW; omega


set_option maxRecDepth 100000 in
set_option maxHeartbeats 1000000 in
theorem minus_c (hi lo : Int) : Tri Try.prog 83 [.agg #[.int .u64 hi, .int .u64 lo]] [] [] (Ret0 (.bool (decide (hi / 9223372036854775808 = 1)))) := by
  refine Tri_of (N := 7) Try.func83 rfl ent_83 rfl rfl ?_
  intro w0 S0 T0
  show CJ _ _ _ [(0, _)] _ _
  refine CJ_seq ?_
  refine CJ_reg ?_
  refine LJ_box (cs := #[_, _]) rfl rfl rfl rfl ?_
  intro b1
  refine LJ_y rfl rfl (YJ_assign rfl) ?_
  refine LJ_nil ?_
  refine QJ_then ?_
  refine CJ_seq ?_
  refine CJ_reg ?_
  first | refine LJ_y rfl rfl (YJ_fieldOwn rfl fld_110_0 rfl) ?_ | refine LJ_y rfl rfl (YJ_fieldAddr rfl fld_110_0) ?_
  first | refine LJ_y rfl rfl (YJ_loadL rfl tyi_108 (by repeat first | exact .head _ | apply List.Mem.tail) rfl) ?_ | refine LJ_y rfl rfl (YJ_loadFact rfl tyi_108 (by repeat first | exact .head _ | apply List.Mem.tail) rfl) ?_
  refine LJ_y rfl rfl (YJ_shr rfl rfl (by decide)) ?_
  refine LJ_y rfl rfl (YJ_bin rfl rfl rfl) ?_
  refine LJ_y rfl rfl (YJ_assign rfl) ?_
  refine LJ_nil ?_
  refine QJ_then ?_
  refine CJ_ret ?_
  refine QJ_fin (.inl rfl) (μ' := []) (μr := _) (φ' := []) (res_tmp rfl rfl) (List.Perm.refl _) (fun _ h => nomatch h) ?_
  exact ⟨rfl, rfl, rfl⟩

set_option maxRecDepth 100000 in
set_option maxHeartbeats 1000000 in
theorem turn_c {hi lo n : Int} (h : IsW hi lo n) : Tri Try.prog 101 [.agg #[.int .u64 hi, .int .u64 lo]] [] [] (RetW (-n)) := by
  refine Tri_of (N := 25) Try.func101 rfl ent_101 rfl rfl ?_
  intro w0 S0 T0
  show CJ _ _ _ [(0, _)] _ _
  have hb := h.b
  obtain ⟨hb1, hb2, hb3, hb4⟩ := hb
  refine CJ_seq ?_
  refine CJ_reg ?_
  refine LJ_box (cs := #[_, _]) rfl rfl rfl rfl ?_
  intro b1
  refine LJ_alloc (cs := #[_, _]) rfl rfl zer_110 rfl ?_
  intro b2
  refine LJ_nil ?_
  refine QJ_then ?_
  refine CJ_seq ?_
  refine CJ_reg ?_
  first | refine LJ_y rfl rfl (YJ_fieldOwn rfl fld_110_1 rfl) ?_ | refine LJ_y rfl rfl (YJ_fieldAddr rfl fld_110_1) ?_
  first | refine LJ_y rfl rfl (YJ_loadL rfl tyi_108 (by repeat first | exact .head _ | apply List.Mem.tail) rfl) ?_ | refine LJ_y rfl rfl (YJ_loadFact rfl tyi_108 (by repeat first | exact .head _ | apply List.Mem.tail) rfl) ?_
  refine LJ_y rfl rfl (YJ_xor rfl (by assumption) (by assumption)) ?_
  refine LJ_y rfl rfl (YJ_ext rfl rfl (fun w => add64_run _ _ _ (by omega) (by omega) (by omega) (by omega) w)) ?_
  refine LJ_y rfl rfl (YJ_move rfl) ?_
  refine LJ_y rfl rfl (YJ_extract rfl rfl) ?_
  refine LJ_y rfl rfl (YJ_extract rfl rfl) ?_
  refine LJ_y rfl rfl (YJ_assign rfl) ?_
  refine LJ_y rfl rfl (YJ_assign rfl) ?_
  refine LJ_nil ?_
  refine QJ_then ?_
  refine CJ_seq ?_
  refine CJ_reg ?_
  first | refine LJ_y rfl rfl (YJ_fieldOwn rfl fld_110_0 rfl) ?_ | refine LJ_y rfl rfl (YJ_fieldAddr rfl fld_110_0) ?_
  first | refine LJ_y rfl rfl (YJ_loadL rfl tyi_108 (by repeat first | exact .head _ | apply List.Mem.tail) rfl) ?_ | refine LJ_y rfl rfl (YJ_loadFact rfl tyi_108 (by repeat first | exact .head _ | apply List.Mem.tail) rfl) ?_
  refine LJ_y rfl rfl (YJ_xor rfl (by assumption) (by assumption)) ?_
  refine LJ_y rfl rfl (YJ_move rfl) ?_
  refine LJ_y rfl rfl (YJ_ext rfl rfl (fun w => add64_run _ _ _ (by omega) (by omega) (by omega) (by omega) w)) ?_
  refine LJ_y rfl rfl (YJ_move rfl) ?_
  refine LJ_y rfl rfl (YJ_extract rfl rfl) ?_
  refine LJ_y rfl rfl (YJ_extract rfl rfl) ?_
  refine LJ_y rfl rfl (YJ_assign rfl) ?_
  refine LJ_y rfl rfl (YJ_assign rfl) ?_
  refine LJ_nil ?_
  refine QJ_then ?_
  refine CJ_seq ?_
  refine CJ_reg ?_
  refine LJ_y rfl rfl (YJ_move rfl) ?_
  refine LJ_y rfl rfl (YJ_move rfl) ?_
  refine LJ_y rfl rfl (YJ_build1 (cs := [_, _]) lay_110 rfl rfl rfl) ?_
  refine LJ_store (cs' := #[_, _]) (μ' := [_, _]) 0 rfl rfl rfl rfl tyi_110 rfl (Nat.le_of_ble_eq_true rfl) rfl rfl rfl ?_
  refine LJ_nil ?_
  refine QJ_then ?_
  refine CJ_ret ?_
  refine QJ_fin (.inl rfl) (μ' := []) (μr := _) (φ' := []) (res_cell (vs := [_, _]) rfl rfl (by repeat first | exact .head _ | apply List.Mem.tail) tyi_110 rfl) (List.Perm.refl _) (fun _ h => nomatch h) ?_
  exact ⟨(_, _), by unfold IsW at h ⊢; dsimp only; omega, rfl, rfl, rfl⟩

set_option maxRecDepth 100000 in
set_option maxHeartbeats 1000000 in
theorem abs_c {n : Int} (h : I64 n) : Tri Try.prog 107 [.int .i64 n] [] [] (Ret0 (.int .u64 (n.natAbs : Int))) := by
  refine Tri_of (N := 10) Try.func107 rfl ent_107 rfl rfl ?_
  intro w0 S0 T0
  show CJ _ _ _ [(0, _)] _ _
  unfold I64 at h
  refine CJ_seq ?_
  refine CJ_reg ?_
  refine LJ_y rfl rfl (YJ_assign rfl) ?_
  refine LJ_nil ?_
  refine QJ_then ?_
  refine CJ_seq ?_
  refine CJ_seq ?_
  refine CJ_reg ?_
  refine LJ_y rfl rfl (YJ_move rfl) ?_
  refine LJ_y rfl rfl (YJ_bin rfl rfl rfl) ?_
  refine LJ_nil ?_
  refine QJ_then ?_
  refine CJ_cond rfl (fun h4 => ?_) (fun h4 => ?_)
  · try simp only [decide_eq_true_eq, decide_eq_false_iff_not, Bool.not_eq_true', Bool.not_eq_false', Bool.and_eq_true, Bool.and_eq_false_iff, beq_iff_eq, bne_iff_ne, beq_eq_false_iff_ne, bne_eq_false_iff_eq, ne_eq, decide_eq_decide] at h4
    refine CJ_seq ?_
    refine CJ_reg ?_
    refine LJ_y rfl rfl (YJ_move rfl) ?_
    refine LJ_y rfl rfl (YJ_convII rfl und_3 uint_108) ?_
    refine LJ_y rfl rfl (YJ_neg rfl rfl) ?_
    refine LJ_y rfl rfl (YJ_assign rfl) ?_
    refine LJ_nil ?_
    refine QJ_then ?_
    refine CJ_ret ?_
    refine QJ_then_ret ?_
    refine QJ_fin (.inl rfl) (μ' := []) (μr := _) (φ' := []) (res_tmp rfl rfl) (List.Perm.refl _) (fun _ h => nomatch h) ?_
    exact ⟨congrArg (Value.int .u64) (by (first | rw [IntKind.wrap_u64, IntKind.wrap_u64] | rw [IntKind.wrap_u64]); omega), rfl, rfl⟩
  · try simp only [decide_eq_true_eq, decide_eq_false_iff_not, Bool.not_eq_true', Bool.not_eq_false', Bool.and_eq_true, Bool.and_eq_false_iff, beq_iff_eq, bne_iff_ne, beq_eq_false_iff_ne, bne_eq_false_iff_eq, ne_eq, decide_eq_decide] at h4
    refine CJ_skip ?_
    refine QJ_then ?_
    refine CJ_seq ?_
    refine CJ_reg ?_
    refine LJ_y rfl rfl (YJ_move rfl) ?_
    refine LJ_y rfl rfl (YJ_convII rfl und_3 uint_108) ?_
    refine LJ_y rfl rfl (YJ_assign rfl) ?_
    refine LJ_nil ?_
    refine QJ_then ?_
    refine CJ_ret ?_
    refine QJ_fin (.inl rfl) (μ' := []) (μr := _) (φ' := []) (res_tmp rfl rfl) (List.Perm.refl _) (fun _ h => nomatch h) ?_
    exact ⟨congrArg (Value.int .u64) (by (first | rw [IntKind.wrap_u64, IntKind.wrap_u64] | rw [IntKind.wrap_u64]); omega), rfl, rfl⟩

set_option maxRecDepth 100000 in
set_option maxHeartbeats 1000000 in
theorem pick_c {hi lo : Int} {b : Bool} : Tri Try.prog 128 [.agg #[.int .u64 hi, .int .u64 lo], .bool b] [] [] (Ret0 (.tuple #[if b then .agg #[.int .u64 hi, .int .u64 lo] else .agg #[.int .u64 0, .int .u64 0], .bool b])) := by
  refine Tri_of (N := 10) Try.func128 rfl ent_128 rfl rfl ?_
  intro w0 S0 T0
  show CJ _ _ _ [(0, _), (1, _)] _ _
  refine CJ_seq ?_
  refine CJ_reg ?_
  refine LJ_box (cs := #[_, _]) rfl rfl rfl rfl ?_
  intro b1
  refine LJ_alloc (cs := #[_, _]) rfl rfl zer_110 rfl ?_
  intro b2
  refine LJ_y rfl rfl (YJ_assign rfl) ?_
  refine LJ_nil ?_
  refine QJ_then ?_
  refine CJ_seq ?_
  refine CJ_seq ?_
  refine CJ_reg ?_
  refine LJ_y rfl rfl (YJ_move rfl) ?_
  refine LJ_y rfl rfl (YJ_not rfl) ?_
  refine LJ_nil ?_
  refine QJ_then ?_
  refine CJ_cond rfl (fun h7 => ?_) (fun h7 => ?_)
  · try simp only [decide_eq_true_eq, decide_eq_false_iff_not, Bool.not_eq_true', Bool.not_eq_false', Bool.and_eq_true, Bool.and_eq_false_iff, beq_iff_eq, bne_iff_ne, beq_eq_false_iff_ne, bne_eq_false_iff_eq, ne_eq, decide_eq_decide] at h7
    refine CJ_seq ?_
    refine CJ_reg ?_
    refine LJ_y rfl rfl (YJ_build1 (cs := [_, _]) lay_110 rfl rfl rfl) ?_
    refine LJ_store (cs' := #[_, _]) (μ' := [_, _]) 0 rfl rfl rfl rfl tyi_110 rfl (Nat.le_of_ble_eq_true rfl) rfl rfl rfl ?_
    refine LJ_y rfl rfl (YJ_assign rfl) ?_
    refine LJ_nil ?_
    refine QJ_then ?_
    refine CJ_ret ?_
    refine QJ_then_ret ?_
    refine QJ_fin (.inl rfl) (μ' := []) (μr := _) (φ' := []) (res_cell_tmp (vs := [_, _]) rfl rfl (by repeat first | exact .head _ | apply List.Mem.tail) tyi_110 rfl rfl) (List.Perm.refl _) (fun _ h => nomatch h) ?_
    subst_vars; exact ⟨rfl, rfl, rfl⟩
  · try simp only [decide_eq_true_eq, decide_eq_false_iff_not, Bool.not_eq_true', Bool.not_eq_false', Bool.and_eq_true, Bool.and_eq_false_iff, beq_iff_eq, bne_iff_ne, beq_eq_false_iff_ne, bne_eq_false_iff_eq, ne_eq, decide_eq_decide] at h7
    refine CJ_skip ?_
    refine QJ_then ?_
    refine CJ_seq ?_
    refine CJ_reg ?_
    first | refine LJ_y rfl rfl (YJ_loadN (vs := [_, _]) rfl tyi_110 (by repeat first | exact .head _ | apply List.Mem.tail) rfl rfl) ?_ | refine LJ_y rfl rfl (YJ_loadFactN (vs := [_, _]) rfl tyi_110 (by repeat first | exact .head _ | apply List.Mem.tail) rfl rfl) ?_
    refine LJ_store (cs' := #[_, _]) (μ' := [_, _]) 0 rfl rfl rfl rfl tyi_110 rfl (Nat.le_of_ble_eq_true rfl) rfl rfl rfl ?_
    refine LJ_y rfl rfl (YJ_assign rfl) ?_
    refine LJ_nil ?_
    refine QJ_then ?_
    refine CJ_ret ?_
    refine QJ_fin (.inl rfl) (μ' := []) (μr := _) (φ' := []) (res_cell_tmp (vs := [_, _]) rfl rfl (by repeat first | exact .head _ | apply List.Mem.tail) tyi_110 rfl rfl) (List.Perm.refl _) (fun _ h => nomatch h) ?_
    subst_vars; exact ⟨rfl, rfl, rfl⟩

set_option maxRecDepth 100000 in
set_option maxHeartbeats 1000000 in
theorem wmul_c {n m : Int} (hn : I64 n) (hm : I64 m) : Tri Try.prog 91 [.int .i64 n, .int .i64 m] [] [] (RetW (n * m)) := by
  refine Tri_of (N := 29) Try.func91 rfl ent_91 rfl rfl ?_
  intro w0 S0 T0
  show CJ _ _ _ [(0, _), (1, _)] _ _
  have hb := isW_words (pabs_b hn hm).1 (pabs_b hn hm).2
  have hp := pabs n m
  have hn1 : 0 ≤ (n.natAbs : Int) ∧ (n.natAbs : Int) < 18446744073709551616 := by unfold I64 at hn; omega
  have hm1 : 0 ≤ (m.natAbs : Int) ∧ (m.natAbs : Int) < 18446744073709551616 := by unfold I64 at hm; omega
  refine CJ_seq ?_
  refine CJ_reg ?_
  refine LJ_alloc (cs := #[_, _]) rfl rfl zer_110 rfl ?_
  intro b1
  refine LJ_nil ?_
  refine QJ_then ?_
  refine CJ_seq ?_
  refine CJ_reg ?_
  refine LJ_y rfl rfl (YJ_move rfl) ?_
  refine LJ_call0 rfl rfl rfl rfl rfl (abs_c (by assumption)) (AllIn.sub (by first | exact trivial | exact And.intro (by repeat first | exact .head _ | apply List.Mem.tail) trivial | exact And.intro (by repeat first | exact .head _ | apply List.Mem.tail) (And.intro (by repeat first | exact .head _ | apply List.Mem.tail) trivial))) ?_
  refine LJ_y rfl rfl (YJ_move rfl) ?_
  refine LJ_call0 rfl rfl rfl rfl rfl (abs_c (by assumption)) (AllIn.sub (by first | exact trivial | exact And.intro (by repeat first | exact .head _ | apply List.Mem.tail) trivial | exact And.intro (by repeat first | exact .head _ | apply List.Mem.tail) (And.intro (by repeat first | exact .head _ | apply List.Mem.tail) trivial))) ?_
  refine LJ_call0 rfl rfl rfl rfl rfl (mul64_c _ _ hn1.1 hn1.2 hm1.1 hm1.2) (AllIn.sub (by first | exact trivial | exact And.intro (by repeat first | exact .head _ | apply List.Mem.tail) trivial | exact And.intro (by repeat first | exact .head _ | apply List.Mem.tail) (And.intro (by repeat first | exact .head _ | apply List.Mem.tail) trivial))) ?_
  refine LJ_y rfl rfl (YJ_move rfl) ?_
  refine LJ_y rfl rfl (YJ_extract rfl rfl) ?_
  refine LJ_y rfl rfl (YJ_extract rfl rfl) ?_
  refine LJ_y rfl rfl (YJ_assign rfl) ?_
  refine LJ_y rfl rfl (YJ_assign rfl) ?_
  refine LJ_nil ?_
  refine QJ_then ?_
  refine CJ_seq ?_
  refine CJ_seq ?_
  refine CJ_reg ?_
  refine LJ_y rfl rfl (YJ_move rfl) ?_
  refine LJ_y rfl rfl (YJ_move rfl) ?_
  refine LJ_y rfl rfl (YJ_build1 (cs := [_, _]) lay_110 rfl rfl rfl) ?_
  refine LJ_alloc (cs := #[_, _]) rfl rfl zer_110 rfl ?_
  intro b2
  refine LJ_store (cs' := #[_, _]) (μ' := [_, _]) 0 rfl rfl rfl rfl tyi_110 rfl (Nat.le_of_ble_eq_true rfl) rfl rfl rfl ?_
  refine LJ_nil ?_
  refine QJ_then ?_
  refine CJ_seq ?_
  refine CJ_reg ?_
  refine LJ_y rfl rfl (YJ_move rfl) ?_
  refine LJ_y rfl rfl (YJ_bin rfl rfl rfl) ?_
  refine LJ_y rfl rfl (YJ_move rfl) ?_
  refine LJ_y rfl rfl (YJ_bin rfl rfl rfl) ?_
  refine LJ_y rfl rfl (YJ_neb rfl rfl ubool_4) ?_
  refine LJ_nil ?_
  refine QJ_then ?_
  refine CJ_cond rfl (fun h23 => ?_) (fun h23 => ?_)
  · try simp only [decide_eq_true_eq, decide_eq_false_iff_not, Bool.not_eq_true', Bool.not_eq_false', Bool.and_eq_true, Bool.and_eq_false_iff, beq_iff_eq, bne_iff_ne, beq_eq_false_iff_ne, bne_eq_false_iff_eq, ne_eq, decide_eq_decide] at h23
    refine CJ_seq ?_
    refine CJ_reg ?_
    first | refine LJ_y rfl rfl (YJ_loadN (vs := [_, _]) rfl tyi_110 (by repeat first | exact .head _ | apply List.Mem.tail) rfl rfl) ?_ | refine LJ_y rfl rfl (YJ_loadFactN (vs := [_, _]) rfl tyi_110 (by repeat first | exact .head _ | apply List.Mem.tail) rfl rfl) ?_
    refine LJ_callX rfl rfl rfl rfl rfl (turn_c hb) (AllIn.sub (by first | exact trivial | exact And.intro (by repeat first | exact .head _ | apply List.Mem.tail) trivial | exact And.intro (by repeat first | exact .head _ | apply List.Mem.tail) (And.intro (by repeat first | exact .head _ | apply List.Mem.tail) trivial))) ?_
    rintro ⟨_, _⟩ ht
    refine LJ_store (cs' := #[_, _]) (μ' := [_, _]) 1 rfl rfl rfl rfl tyi_110 rfl (Nat.le_of_ble_eq_true rfl) rfl rfl rfl ?_
    refine LJ_nil ?_
    refine QJ_then ?_
    refine CJ_ret ?_
    refine QJ_then_ret ?_
    refine QJ_fin (.inl rfl) (μ' := []) (μr := _) (φ' := []) (res_cell (vs := [_, _]) rfl rfl (by repeat first | exact .head _ | apply List.Mem.tail) tyi_110 rfl) (List.Perm.refl _) (fun _ h => nomatch h) ?_
    rw [hp, if_neg (by omega), Int.neg_neg] at ht; exact ⟨(_, _), ht, rfl, rfl, rfl⟩
  · try simp only [decide_eq_true_eq, decide_eq_false_iff_not, Bool.not_eq_true', Bool.not_eq_false', Bool.and_eq_true, Bool.and_eq_false_iff, beq_iff_eq, bne_iff_ne, beq_eq_false_iff_ne, bne_eq_false_iff_eq, ne_eq, decide_eq_decide] at h23
    refine CJ_skip ?_
    refine QJ_then ?_
    refine CJ_seq ?_
    refine CJ_reg ?_
    refine LJ_y rfl rfl (YJ_move rfl) ?_
    refine LJ_y rfl rfl (YJ_move rfl) ?_
    refine LJ_y rfl rfl (YJ_build1 (cs := [_, _]) lay_110 rfl rfl rfl) ?_
    refine LJ_store (cs' := #[_, _]) (μ' := [_, _]) 1 rfl rfl rfl rfl tyi_110 rfl (Nat.le_of_ble_eq_true rfl) rfl rfl rfl ?_
    refine LJ_nil ?_
    refine QJ_then ?_
    refine CJ_ret ?_
    refine QJ_fin (.inl rfl) (μ' := []) (μr := _) (φ' := []) (res_cell (vs := [_, _]) rfl rfl (by repeat first | exact .head _ | apply List.Mem.tail) tyi_110 rfl) (List.Perm.refl _) (fun _ h => nomatch h) ?_
    rw [if_pos (by omega)] at hp; refine ⟨(_, _), ?_, rfl, rfl, rfl⟩; rw [← hp]; exact hb

end Go.Proofs.Ytbanlhlggkdanaa
