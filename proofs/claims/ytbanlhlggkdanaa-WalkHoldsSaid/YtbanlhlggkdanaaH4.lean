/- Equality of arrays of ints; the walk of what is right of a place. -/
import Derived.Test.YtbanlhlggkdanaaH3
import Derived.ChangeKeysEq
set_option linter.unusedSimpArgs false
set_option linter.unusedVariables false
namespace Go.Proofs.Ytbanlhlggkdanaa
open Go.RowKit




section
variable {P : Program} (w : World)
theorem run_eqItems_ints {d : Nat} {e : TypeId} {k : IntKind} (he : tyi P e = some (false, 1)) (hk : P.underlying e = some (.int k)) (xs ys : List Int) : ∀ (is : List Nat), (∀ i ∈ is, i < xs.length ∧ i < ys.length) →
    (Op.eqItems (d + 1) e 1 (xs.map (Value.int k)).toArray (ys.map (Value.int k)).toArray is).run P w = .ok (is.all fun i => xs[i]? == ys[i]?) w
  | [], _ => by simp [Op.eqItems]
  | i :: is, h => by
    have h1 := h i (.head _)
    have ih := run_eqItems_ints (d := d) he hk xs ys is (fun j hj => h j (.tail _ hj))
    have p1 : (part e (xs.map (Value.int k)).toArray (i * 1)).run P w = .ok (.int k xs[i]) w := run_part1 he (by rw [lget_eq]; simp [h1.1]) w
    have p2 : (part e (ys.map (Value.int k)).toArray (i * 1)).run P w = .ok (.int k ys[i]) w := run_part1 he (by rw [lget_eq]; simp [h1.2]) w
    simp only [Op.eqItems, Sem.run_bind, p1, p2, Result.andThen_ok, run_equalIn_int w d e k k _ _ hk, List.all_cons]
    rw [List.getElem?_eq_getElem h1.1, List.getElem?_eq_getElem h1.2]
    by_cases e1 : xs[i] = ys[i]
    · simp [e1, ih]
    · simp [e1]
end
theorem run_eqArr2 {P : Program} (w : World) {t e : TypeId} {i : TypeInfo} (hu : P.underlying t = some (.array 2 e)) (hi : P.info? e = some i) (hs : P.cellsOf e = 1) (he : tyi P e = some (false, 1)) (hk : P.underlying e = some (.int .i64)) (a b c d : Int) :
    (Op.equalIn 10000 t (.agg #[.int .i64 a, .int .i64 b]) (.agg #[.int .i64 c, .int .i64 d])).run P w = .ok (decide (a = c) && decide (b = d)) w := by
  rw [show (10000 : Nat) = 9999 + 1 from rfl, run_equalIn_array w 9999 _ _ hu hi, hs]
  have := run_eqItems_ints (P := P) w (d := 9998) he hk [a, b] [c, d] (List.range 2) (fun i hi => by simpa using hi)
  refine Eq.trans this ?_
  simp [List.range_succ]
  by_cases h1 : a = c <;> by_cases h2 : b = d <;> simp [h1, h2]
theorem run_eqArr3 {P : Program} (w : World) {t e : TypeId} {i : TypeInfo} (hu : P.underlying t = some (.array 3 e)) (hi : P.info? e = some i) (hs : P.cellsOf e = 1) (he : tyi P e = some (false, 1)) (hk : P.underlying e = some (.int .i64)) (a b c a' b' c' : Int) :
    (Op.equalIn 10000 t (.agg #[.int .i64 a, .int .i64 b, .int .i64 c]) (.agg #[.int .i64 a', .int .i64 b', .int .i64 c'])).run P w = .ok (decide (a = a') && decide (b = b') && decide (c = c')) w := by
  rw [show (10000 : Nat) = 9999 + 1 from rfl, run_equalIn_array w 9999 _ _ hu hi, hs]
  have := run_eqItems_ints (P := P) w (d := 9998) he hk [a, b, c] [a', b', c'] (List.range 3) (fun i hi => by simpa using hi)
  refine Eq.trans this ?_
  simp [List.range_succ]
  by_cases h1 : a = a' <;> by_cases h2 : b = b' <;> by_cases h3 : c = c' <;> simp [h1, h2, h3]
theorem info_int : ∃ i, Try.prog.info? 3 = some i := Option.isSome_iff_exists.1 (by kernel_rfl)
theorem eqs_neq_46 (a b c d : Int) (x y : Operand) (w : World) :
    (do eqGuard .neq 46 x y (.agg #[.int .i64 a, .int .i64 b]) (.agg #[.int .i64 c, .int .i64 d]); binOp .neq 46 (.agg #[.int .i64 a, .int .i64 b]) (.agg #[.int .i64 c, .int .i64 d]) : Sem Value).run Try.prog w = .ok (.bool (!(decide (a = c) && decide (b = d)))) w := by
  obtain ⟨i, hi⟩ := info_int
  simp only [Sem.run_bind]
  rw [run_eqGuard_agg w .neq 46 x y _ _ (by kernel_rfl)]
  simp only [Result.andThen_ok, run_neq_struct]
  rw [run_eqArr2 w (by kernel_rfl) hi (by kernel_rfl) (by kernel_rfl) (by kernel_rfl)]
  rfl
theorem eqs_eql_46 (a b c d : Int) (x y : Operand) (w : World) :
    (do eqGuard .eql 46 x y (.agg #[.int .i64 a, .int .i64 b]) (.agg #[.int .i64 c, .int .i64 d]); binOp .eql 46 (.agg #[.int .i64 a, .int .i64 b]) (.agg #[.int .i64 c, .int .i64 d]) : Sem Value).run Try.prog w = .ok (.bool (decide (a = c) && decide (b = d))) w := by
  obtain ⟨i, hi⟩ := info_int
  simp only [Sem.run_bind]
  rw [run_eqGuard_agg w .eql 46 x y _ _ (by kernel_rfl)]
  simp only [Result.andThen_ok, run_eql_struct]
  rw [run_eqArr2 w (by kernel_rfl) hi (by kernel_rfl) (by kernel_rfl) (by kernel_rfl)]
  rfl


end Go.Proofs.Ytbanlhlggkdanaa
