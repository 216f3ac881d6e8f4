/- Plain laws of whole numbers: how three points turn, circles, and lines. -/
import Derived.Test.YtbanlhlggkdanaaP4
set_option linter.unusedSimpArgs false
set_option linter.unusedVariables false
namespace Go.Proofs.Ytbanlhlggkdanaa
open Go.RowKit




theorem sgn_neg (n : Int) : sgn (-n) = -sgn n := by
  have h1 := sgn_cases n
  have h2 := sgn_cases (-n)
  omega
theorem sgn_wrap (n : Int) : IntKind.i64.wrap (0 - sgn n) = -sgn n := by
  have h1 := sgn_cases n
  rw [IntKind.wrap_i64]; omega
theorem sgn_zero {n : Int} : sgn n = 0 ↔ n = 0 := by have := sgn_cases n; omega
theorem sgn_nonneg {n : Int} : 0 ≤ sgn n ↔ 0 ≤ n := by have := sgn_cases n; omega
theorem A2_eq (a1 a2 e1 e2 c1 c2 : Int) : A2 a1 a2 e1 e2 c1 c2 = (e1 - a1) * (c2 - a2) - (e2 - a2) * (c1 - a1) := rfl
theorem A2_rot (a1 a2 e1 e2 c1 c2 : Int) : A2 e1 e2 c1 c2 a1 a2 = A2 a1 a2 e1 e2 c1 c2 := by rw [A2_eq, A2_eq]; grind
theorem A2_swap (a1 a2 e1 e2 c1 c2 : Int) : A2 e1 e2 a1 a2 c1 c2 = -A2 a1 a2 e1 e2 c1 c2 := by rw [A2_eq, A2_eq]; grind
theorem shoe3 (a1 a2 e1 e2 c1 c2 : Int) : shoe [(a1, a2), (e1, e2), (c1, c2)] 3 = A2 a1 a2 e1 e2 c1 c2 := by
  rw [A2_eq]
  simp only [shoe, List.length_cons, List.length_nil, List.getD_cons_zero, List.getD_cons_succ, Nat.zero_add, Nat.reduceAdd, Nat.reduceMod]
  grind
theorem crs_rev {a1 a2 e1 e2 c1 c2 d1 d2 : Int} : Crs d1 d2 c1 c2 e1 e2 a1 a2 ↔ Crs a1 a2 e1 e2 c1 c2 d1 d2 := by
  unfold Crs
  rw [A2_swap c1 c2 d1 d2 e1 e2, A2_swap c1 c2 d1 d2 a1 a2, A2_swap a1 a2 e1 e2 d1 d2, A2_swap a1 a2 e1 e2 c1 c2, sgn_neg, sgn_neg, sgn_neg, sgn_neg, Int.neg_mul_neg, Int.neg_mul_neg]
  rw [Int.mul_comm (sgn (A2 c1 c2 d1 d2 e1 e2)), Int.mul_comm (sgn (A2 a1 a2 e1 e2 d1 d2))]
  exact And.comm
theorem crs_turn {a1 a2 e1 e2 c1 c2 d1 d2 : Int} : Crs c1 c2 d1 d2 a1 a2 e1 e2 ↔ Crs a1 a2 e1 e2 c1 c2 d1 d2 := And.comm
theorem mts_turn {a1 a2 e1 e2 c1 c2 d1 d2 : Int} : Mts c1 c2 d1 d2 a1 a2 e1 e2 ↔ Mts a1 a2 e1 e2 c1 c2 d1 d2 := by
  unfold Mts
  rw [crs_turn]
  constructor
  · rintro (h | h | h | h | h)
    · exact .inl h
    · exact .inr (.inr (.inr (.inl h)))
    · exact .inr (.inr (.inr (.inr h)))
    · exact .inr (.inl h)
    · exact .inr (.inr (.inl h))
  · rintro (h | h | h | h | h)
    · exact .inl h
    · exact .inr (.inr (.inr (.inl h)))
    · exact .inr (.inr (.inr (.inr h)))
    · exact .inr (.inl h)
    · exact .inr (.inr (.inl h))
theorem on_swap {p1 p2 a1 a2 e1 e2 : Int} : OnL p1 p2 e1 e2 a1 a2 ↔ OnL p1 p2 a1 a2 e1 e2 := by
  unfold OnL
  rw [A2_swap a1 a2 e1 e2 p1 p2, sgn_neg]
  omega
theorem sq_nonneg (x : Int) : 0 ≤ x * x := by
  rcases Int.le_total 0 x with h | h
  · exact Int.mul_nonneg h h
  · exact Int.mul_nonneg_of_nonpos_of_nonpos h h
theorem sq_zero {x : Int} (h : x * x = 0) : x = 0 := by
  rcases Int.mul_eq_zero.1 h with h | h <;> exact h
/-- two ways whose products agree point the same way -/
theorem dots {u v s t : Int} (hc : u * t = v * s) (hd : 0 ≤ u * s + v * t) : 0 ≤ u * s ∧ 0 ≤ v * t := by
  have hp : 0 ≤ (u * s) * (v * t) := by
    have e : (u * s) * (v * t) = (u * t) * (u * t) := by
      have : (u * s) * (v * t) = (u * t) * (v * s) := by grind
      rw [this, ← hc]
    rw [e]; exact sq_nonneg _
  rcases Int.lt_or_le (u * s) 0 with h1 | h1
  · rcases Int.lt_or_le (v * t) 0 with h2 | h2
    · omega
    · have h3 : 0 < v * t := by omega
      have := Int.mul_neg_of_neg_of_pos h1 h3
      omega
  · rcases Int.lt_or_le (v * t) 0 with h2 | h2
    · have h3 : 0 < u * s := by omega
      have := Int.mul_neg_of_pos_of_neg h3 h2
      omega
    · exact ⟨h1, h2⟩
theorem between_iff {a p e : Int} : (min a e ≤ p ∧ p ≤ max a e) ↔ 0 ≤ (a - p) * (p - e) := by
  constructor
  · rintro ⟨h1, h2⟩
    rcases Int.le_total a e with h | h
    · exact Int.mul_nonneg_of_nonpos_of_nonpos (by omega) (by omega)
    · exact Int.mul_nonneg (by omega) (by omega)
  · intro h
    rcases Int.lt_trichotomy (a - p) 0 with h1 | h1 | h1
    · have : p - e ≤ 0 := by
        rcases Int.lt_or_le 0 (p - e) with h2 | h2
        · have := Int.mul_neg_of_neg_of_pos h1 h2; omega
        · exact h2
      omega
    · omega
    · have : 0 ≤ p - e := by
        rcases Int.lt_or_le (p - e) 0 with h2 | h2
        · have := Int.mul_neg_of_pos_of_neg h1 h2; omega
        · exact h2
      omega
theorem on_iff (p1 p2 a1 a2 e1 e2 : Int) {x y z : Int} (hx : x = (a1 - p1) * (a1 - p1) + (a2 - p2) * (a2 - p2)) (hy : y = (p1 - e1) * (p1 - e1) + (p2 - e2) * (p2 - e2)) (hz : z = (a1 - e1) * (a1 - e1) + (a2 - e2) * (a2 - e2)) :
    OnL p1 p2 a1 a2 e1 e2 ↔ (0 ≤ sgn (z - x - y) ∧ sgn ((z - x - y) * (z - x - y) - 4 * (x * y)) = 0) := by
  have hd : z - x - y = 2 * ((a1 - p1) * (p1 - e1) + (a2 - p2) * (p2 - e2)) := by rw [hx, hy, hz]; grind
  have hc : (z - x - y) * (z - x - y) - 4 * (x * y) = -4 * (A2 a1 a2 e1 e2 p1 p2 * A2 a1 a2 e1 e2 p1 p2) := by rw [hd, hx, hy, A2_eq]; grind
  have hA : A2 a1 a2 e1 e2 p1 p2 = (a2 - p2) * (p1 - e1) - (a1 - p1) * (p2 - e2) := by clear hx hy hz hd hc; rw [A2_eq]; grind
  rw [sgn_nonneg, sgn_zero, hc]
  unfold OnL
  rw [sgn_zero]
  have hb1 := between_iff (a := a1) (p := p1) (e := e1)
  have hb2 := between_iff (a := a2) (p := p2) (e := e2)
  constructor
  · rintro ⟨h0, h1, h2, h3, h4⟩
    have k1 := hb1.1 ⟨h1, h2⟩
    have k2 := hb2.1 ⟨h3, h4⟩
    rw [h0, hd]
    omega
  · rintro ⟨h1, h2⟩
    have h0 : A2 a1 a2 e1 e2 p1 p2 = 0 := sq_zero (by omega)
    rw [hd] at h1
    have hdd : 0 ≤ (a1 - p1) * (p1 - e1) + (a2 - p2) * (p2 - e2) := by omega
    have := dots (u := a1 - p1) (v := a2 - p2) (s := p1 - e1) (t := p2 - e2) (by omega) hdd
    have k1 := hb1.2 this.1
    have k2 := hb2.2 this.2
    exact ⟨h0, k1.1, k1.2, k2.1, k2.2⟩


end Go.Proofs.Ytbanlhlggkdanaa
