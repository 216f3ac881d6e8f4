/- Arrays: an element's address, an element of an array value, a field of a struct value. -/
import Derived.Test.YtbanlhlggkdanaaOps
set_option linter.unusedSimpArgs false
set_option linter.unusedVariables false
namespace Go.Proofs.Ytbanlhlggkdanaa
open Go.RowKit

/-- an array type: how many, of which type, of how many cells -/
def arrt (P : Program) (t : TypeId) : Option (Nat × TypeId × Nat) :=
  match P.underlying t with
  | some (.array n e) => (P.info? e).map fun i => (n, e, i.size)
  | _ => none

theorem run_part1 {P : Program} {t : TypeId} {cs : Array Value} {off : Nat} {v : Value} (ht : tyi P t = some (false, 1)) (h : lget cs.toList off = some v) (w : World) : (part t cs off).run P w = .ok v w := by
  rw [lget_eq, Array.getElem?_toList] at h
  simp only [part, Sem.run_bind, run_isAgg ht w, Result.andThen_ok, Bool.false_eq_true, if_false, h]
  rfl
theorem run_partN {P : Program} {t : TypeId} {cs : Array Value} {off n : Nat} {vs : List Value} (ht : tyi P t = some (true, n)) (h : (cs.toList.drop off).take n = vs) (w : World) : (part t cs off).run P w = .ok (.agg vs.toArray) w := by
  have hs : (sizeOf t).run P w = .ok n w := by
    unfold tyi at ht
    cases hu : P.underlying t with
    | none => rw [hu] at ht; simp at ht
    | some d =>
      rw [hu] at ht
      cases hi : P.info? t with
      | none => rw [hi] at ht; simp at ht
      | some i =>
        rw [hi] at ht
        simp at ht
        simp [sizeOf, typeInfo, hi, ht.2]
  simp only [part, Sem.run_bind, run_isAgg ht w, Result.andThen_ok, if_true, hs]
  have : cs.extract off (off + n) = vs.toArray := by
    rw [← h, ← Array.toList_inj]
    simp
  rw [this]
  rfl

/-- whole numbers as values -/
def Iv (l : List Int) : List Value := l.map (Value.int .i64)
theorem Iv_get {l : List Int} {j k : Nat} (h : j = k) (hk : k < l.length) : lget (Iv l) j = some (.int .i64 (l.getD k 0)) := by
  subst h
  rw [lget_eq, Iv, List.getElem?_map, List.getElem?_eq_getElem hk, List.getD, List.getElem?_eq_getElem hk]
  rfl
theorem Iv_set {w : List Int} {off i : Nat} {x : Int} (h : off = i) : wr (Iv w).toArray off (Value.int .i64 x).cells.toList = (Iv (w.set i x)).toArray := by
  subst h
  show (Iv w).toArray.setIfInBounds off (.int .i64 x) = _
  simp [Iv, List.map_set]
theorem getD_set (w : List Int) (i j : Nat) (x : Int) : (w.set i x).getD j 0 = if i = j ∧ j < w.length then x else w.getD j 0 := by
  rw [List.getD, List.getD, List.getElem?_set]
  by_cases h : i = j
  · subst h
    by_cases h2 : i < w.length
    · simp [h2]
    · simp [h2]
  · simp [h]
theorem list4 {l : List Int} (h : l.length = 4) : ∃ a b c d, l = [a, b, c, d] := by
  match l, h with
  | [a, b, c, d], _ => exact ⟨a, b, c, d, rfl⟩

section
variable {E : Env} {ty : TypeId} {σ : List (Nat × Value)} {μ φ : List Res}
/-- the last bits of an int -/
theorem YJ_andM {xt yt : TypeId} {x y : Operand} {a m : Int} (k : Nat) (hx : oev σ x = some (.int .i64 a)) (hy : oev σ y = some (.int .i64 m)) (hk : k ≤ 62) (hm : m = ((2 ^ k - 1 : Nat) : Int)) :
    YJ E (.binOp .and xt x y yt) ty σ μ φ (.int .i64 (a % ((2 ^ k : Nat) : Int))) := fun ac w _ _ _ _ hs _ _ => by
  simp only [execOp, hs.ev hx, hs.ev hy, eqGuard_and, binOp_and]
  have hp : 2 ^ k ≤ 2 ^ 62 := Nat.pow_le_pow_right (by decide) hk
  have hp0 : 0 < 2 ^ k := Nat.two_pow_pos k
  have hdvd : 2 ^ k ∣ 2 ^ 64 := Nat.pow_dvd_pow 2 (by omega)
  have : (Op.intBits .and .i64 a m) = pure (.int .i64 (a % ((2 ^ k : Nat) : Int))) := by
    unfold Op.intBits
    show (pure (Value.int .i64 (IntKind.i64.wrap ((BitVec.ofInt 64 a &&& BitVec.ofInt 64 m : BitVec 64).toNat : Int))) : Sem Value) = _
    have e : ((BitVec.ofInt 64 a &&& BitVec.ofInt 64 m : BitVec 64).toNat : Int) = a % ((2 ^ k : Nat) : Int) := by
      rw [BitVec.toNat_and]
      have h2 : (BitVec.ofInt 64 m : BitVec 64).toNat = 2 ^ k - 1 := by
        rw [hm, BitVec.toNat_ofInt]
        generalize 2 ^ k = q at *
        omega
      rw [h2, Nat.and_two_pow_sub_one_eq_mod, BitVec.toNat_ofInt, Int.natCast_emod, Int.toNat_of_nonneg (Int.emod_nonneg _ (by decide))]
      exact Int.emod_emod_of_dvd a (Int.natCast_dvd_natCast.2 hdvd)
    rw [e, IntKind.wrap_i64]
    have h3 : 0 ≤ a % ((2 ^ k : Nat) : Int) := Int.emod_nonneg _ (by omega)
    have h4 : a % ((2 ^ k : Nat) : Int) < ((2 ^ k : Nat) : Int) := Int.emod_lt_of_pos _ (by omega)
    congr 2
    generalize a % ((2 ^ k : Nat) : Int) = r at *
    generalize 2 ^ k = q at *
    omega
  simp only [this]
  simp
theorem YJ_ixArr {xt e : TypeId} {x y : Operand} {b off n size q : Nat} {k : IntKind} {i : Int} (hx : oev σ x = some (.pointer (some ⟨b, off, none⟩))) (hy : oev σ y = some (.int k i)) (he : arrt E.P xt = some (n, e, size)) (h0 : 0 ≤ i) (h1 : i < n) (hq : off + i.toNat * size = q) :
    YJ E (.indexAddr xt x y) ty σ μ φ (.pointer (some ⟨b, q, none⟩)) := fun ac w _ _ _ _ hs _ _ => by
  subst hq
  unfold arrt at he
  cases hu : E.P.underlying xt with
  | none => rw [hu] at he; simp at he
  | some d =>
    rw [hu] at he
    cases d <;> simp at he
    rename_i n' e'
    obtain ⟨i', hi, rfl, rfl, rfl⟩ := he
    simp only [execOp, hs.ev hx, hs.ev hy]
    simp [Instr.indexAt, asIntOf, run_underlying hu, sizeOf, typeInfo, hi, h0, h1, Addr.add_lit, Instr.sureAddr]
/-- an element of one cell, of an array value -/
theorem YJ_index1 {xt e : TypeId} {x y : Operand} {cs : Array Value} {n size : Nat} {k : IntKind} {i : Int} {v : Value} (hx : oev σ x = some (.agg cs)) (hy : oev σ y = some (.int k i)) (he : arrt E.P xt = some (n, e, size)) (ht : tyi E.P e = some (false, 1)) (h0 : 0 ≤ i) (h1 : i < n) (hv : lget cs.toList (i.toNat * size) = some v) :
    YJ E (.index xt x y) ty σ μ φ v := fun ac w _ _ _ _ hs _ _ => by
  unfold arrt at he
  cases hu : E.P.underlying xt with
  | none => rw [hu] at he; simp at he
  | some d =>
    rw [hu] at he
    cases d <;> simp at he
    rename_i n' e'
    obtain ⟨i', hi, rfl, rfl, rfl⟩ := he
    simp only [execOp, hs.ev hx, hs.ev hy]
    simp [Instr.index, asIntOf, run_underlying hu, sizeOf, typeInfo, hi, h0, h1, run_part1 ht hv]
theorem YJ_indexN {xt e : TypeId} {x y : Operand} {cs : Array Value} {n size m : Nat} {k : IntKind} {i : Int} {vs : List Value} (hx : oev σ x = some (.agg cs)) (hy : oev σ y = some (.int k i)) (he : arrt E.P xt = some (n, e, size)) (ht : tyi E.P e = some (true, m)) (h0 : 0 ≤ i) (h1 : i < n) (hv : (cs.toList.drop (i.toNat * size)).take m = vs) :
    YJ E (.index xt x y) ty σ μ φ (.agg vs.toArray) := fun ac w _ _ _ _ hs _ _ => by
  unfold arrt at he
  cases hu : E.P.underlying xt with
  | none => rw [hu] at he; simp at he
  | some d =>
    rw [hu] at he
    cases d <;> simp at he
    rename_i n' e'
    obtain ⟨i', hi, rfl, rfl, rfl⟩ := he
    simp only [execOp, hs.ev hx, hs.ev hy]
    simp [Instr.index, asIntOf, run_underlying hu, sizeOf, typeInfo, hi, h0, h1, run_partN ht hv]
end

end Go.Proofs.Ytbanlhlggkdanaa
