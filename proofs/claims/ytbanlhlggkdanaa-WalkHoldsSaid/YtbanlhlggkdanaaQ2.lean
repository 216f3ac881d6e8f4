/- Plain laws of whole numbers: circles, rectangles, triangles. -/
import Derived.Test.YtbanlhlggkdanaaQ1
set_option linter.unusedSimpArgs false
set_option linter.unusedVariables false
namespace Go.Proofs.Ytbanlhlggkdanaa
open Go.RowKit




theorem Inc_eq (a1 a2 e1 e2 c1 c2 d1 d2 : Int) : Inc a1 a2 e1 e2 c1 c2 d1 d2 = ((e1 - d1) * (c2 - d2) - (e2 - d2) * (c1 - d1)) * ((a1 - d1) * (a1 - d1) + (a2 - d2) * (a2 - d2)) + ((c1 - d1) * (a2 - d2) - (c2 - d2) * (a1 - d1)) * ((e1 - d1) * (e1 - d1) + (e2 - d2) * (e2 - d2)) + ((a1 - d1) * (e2 - d2) - (a2 - d2) * (e1 - d1)) * ((c1 - d1) * (c1 - d1) + (c2 - d2) * (c2 - d2)) := rfl
theorem inc_rot (a1 a2 e1 e2 c1 c2 d1 d2 : Int) : Inc e1 e2 c1 c2 a1 a2 d1 d2 = Inc a1 a2 e1 e2 c1 c2 d1 d2 := by rw [Inc_eq, Inc_eq]; omega
theorem inc_at (a1 a2 e1 e2 c1 c2 : Int) : Inc a1 a2 e1 e2 c1 c2 e1 e2 = 0 := by rw [Inc_eq]; grind
theorem sgn_two (n : Int) : sgn (2 * n) = sgn n := by
  have h1 := sgn_cases n
  have h2 := sgn_cases (2 * n)
  omega
theorem sgn_mtwo (n : Int) : sgn (-2 * n) = -sgn n := by
  have h1 := sgn_cases n
  have h2 := sgn_cases (-2 * n)
  omega
theorem power_eq (a1 a2 e1 e2 c1 c2 d1 d2 : Int) : 2 * ((e1 - a1) * (c2 - a2) - (e2 - a2) * (c1 - a1)) * ((a1 - d1) * (a1 - d1) + (a2 - d2) * (a2 - d2)) - 2 * ((d1 - a1) * (((a1 - e1) * (a1 - e1) + (a2 - e2) * (a2 - e2)) * (c2 - a2) - (e2 - a2) * ((a1 - c1) * (a1 - c1) + (a2 - c2) * (a2 - c2))) + (d2 - a2) * ((e1 - a1) * ((a1 - c1) * (a1 - c1) + (a2 - c2) * (a2 - c2)) - ((a1 - e1) * (a1 - e1) + (a2 - e2) * (a2 - e2)) * (c1 - a1))) = -2 * Inc a1 a2 e1 e2 c1 c2 d1 d2 := by
  rw [Inc_eq]; grind
/-- a point and a rectangle -/
theorem inc_rect (x y X Y m n : Int) : Inc x y X y X Y m n = (X - x) * (Y - y) * ((m - x) * (X - m) + (n - y) * (Y - n)) := by rw [Inc_eq]; grind
theorem rect_d (x y X Y : Int) : Inc x y X y X Y x Y = 0 := by rw [inc_rect]; grind
theorem rect_a (x y X Y : Int) : Inc X y X Y x Y x y = 0 := by rw [Inc_eq]; grind
theorem pos_prod {a b : Int} (ha : 0 < a) (hb : 0 < b) : 0 < a * b := Int.mul_pos ha hb
theorem rect_in {x y X Y u v : Int} (hx : x < X) (hy : y < Y) (hu : 0 ≤ u) (hu2 : u < X - x) (hv : 0 ≤ v) (hv2 : v < Y - y) (hne : u ≠ 0 ∨ v ≠ 0) : sgn (Inc x y X y X Y (x + u) (y + v)) = 1 := by
  rw [inc_rect]
  refine sgn_gt (pos_prod (pos_prod (by omega) (by omega)) ?_)
  rw [show x + u - x = u by omega, show y + v - y = v by omega]
  have h1 : 0 ≤ u * (X - (x + u)) := Int.mul_nonneg hu (by omega)
  have h2 : 0 ≤ v * (Y - (y + v)) := Int.mul_nonneg hv (by omega)
  rcases hne with h | h
  · have : 0 < u * (X - (x + u)) := pos_prod (by omega) (by omega)
    omega
  · have : 0 < v * (Y - (y + v)) := pos_prod (by omega) (by omega)
    omega
theorem rect_out {x y X Y k : Int} (hx : x < X) (hy : y < Y) (hk : k = 0 ∨ k = 1) : sgn (Inc x y X y X Y (x - k) Y) = -k := by
  rw [inc_rect]
  rcases hk with rfl | rfl
  · exact sgn_eq (by grind)
  · have h1 : 0 < (X - x) * (Y - y) := pos_prod (by omega) (by omega)
    have h2 : (x - 1 - x) * (X - (x - 1)) + (Y - y) * (Y - Y) = -(X - x + 1) := by grind
    rw [h2]
    exact sgn_lt (by
      have : 0 < (X - x) * (Y - y) * (X - x + 1) := pos_prod h1 (by omega)
      rw [Int.mul_neg]; omega)
/-- the weights of a point in a triangle -/
theorem weights (a1 a2 e1 e2 c1 c2 p1 p2 : Int) : A2 a1 a2 e1 e2 p1 p2 + A2 e1 e2 c1 c2 p1 p2 + A2 c1 c2 a1 a2 p1 p2 = A2 a1 a2 e1 e2 c1 c2 := by rw [A2_eq, A2_eq, A2_eq, A2_eq]; grind
theorem weigh1 (a1 a2 e1 e2 c1 c2 p1 p2 : Int) : A2 e1 e2 c1 c2 p1 p2 * a1 + A2 c1 c2 a1 a2 p1 p2 * e1 + A2 a1 a2 e1 e2 p1 p2 * c1 = A2 a1 a2 e1 e2 c1 c2 * p1 := by rw [A2_eq, A2_eq, A2_eq, A2_eq]; grind
theorem weigh2 (a1 a2 e1 e2 c1 c2 p1 p2 : Int) : A2 e1 e2 c1 c2 p1 p2 * a2 + A2 c1 c2 a1 a2 p1 p2 * e2 + A2 a1 a2 e1 e2 p1 p2 * c2 = A2 a1 a2 e1 e2 c1 c2 * p2 := by rw [A2_eq, A2_eq, A2_eq, A2_eq]; grind
theorem mean_box {y z D a e p : Int} (hD : 0 < D) (hy : 0 ≤ y) (hz : 0 ≤ z) (hs : y + z = D) (hp : y * a + z * e = D * p) : min a e ≤ p ∧ p ≤ max a e := by
  have hp2 : y * a + z * e = y * p + z * p := by rw [hp, ← hs, Int.add_mul]
  constructor
  · rcases Int.lt_or_le p (min a e) with h | h
    · exfalso
      have h1 : 0 ≤ y * (a - p - 1) := Int.mul_nonneg hy (by omega)
      have h2 : 0 ≤ z * (e - p - 1) := Int.mul_nonneg hz (by omega)
      rw [Int.mul_sub, Int.mul_sub] at h1 h2
      omega
    · exact h
  · rcases Int.lt_or_le (max a e) p with h | h
    · exfalso
      have h1 : 0 ≤ y * (p - a - 1) := Int.mul_nonneg hy (by omega)
      have h2 : 0 ≤ z * (p - e - 1) := Int.mul_nonneg hz (by omega)
      rw [Int.mul_sub, Int.mul_sub] at h1 h2
      omega
    · exact h
theorem box_mean {y z D a e p : Int} (hD : 0 < D) (hs : y + z = D) (hp : y * a + z * e = D * p) (h1 : min a e ≤ p) (h2 : p ≤ max a e) (hne : a ≠ e) : 0 ≤ y ∧ 0 ≤ z := by
  have hy : y * (e - a) = D * (e - p) := by rw [Int.mul_sub, Int.mul_sub, ← hp, ← hs, Int.add_mul]; omega
  have hz : z * (e - a) = D * (p - a) := by rw [Int.mul_sub, Int.mul_sub, ← hp, ← hs, Int.add_mul]; omega
  rcases Int.lt_or_le a e with h | h
  · have k1 : 0 ≤ D * (e - p) := Int.mul_nonneg (by omega) (by omega)
    have k2 : 0 ≤ D * (p - a) := Int.mul_nonneg (by omega) (by omega)
    constructor
    · rcases Int.lt_or_le y 0 with q | q
      · have := Int.mul_neg_of_neg_of_pos q (show 0 < e - a by omega); omega
      · exact q
    · rcases Int.lt_or_le z 0 with q | q
      · have := Int.mul_neg_of_neg_of_pos q (show 0 < e - a by omega); omega
      · exact q
  · have k1 : 0 ≤ D * (p - e) := Int.mul_nonneg (by omega) (by omega)
    have k2 : 0 ≤ D * (a - p) := Int.mul_nonneg (by omega) (by omega)
    have e1 : D * (e - p) = -(D * (p - e)) := by rw [← Int.mul_neg]; congr 1; omega
    have e2 : D * (p - a) = -(D * (a - p)) := by rw [← Int.mul_neg]; congr 1; omega
    constructor
    · rcases Int.lt_or_le y 0 with q | q
      · have := Int.mul_pos_of_neg_of_neg q (show e - a < 0 by omega); omega
      · exact q
    · rcases Int.lt_or_le z 0 with q | q
      · have := Int.mul_pos_of_neg_of_neg q (show e - a < 0 by omega); omega
      · exact q
theorem edge_in {a1 a2 e1 e2 c1 c2 p1 p2 : Int} (hD : 0 < A2 a1 a2 e1 e2 c1 c2) (h : OnL p1 p2 a1 a2 e1 e2) : A2 a1 a2 e1 e2 p1 p2 = 0 ∧ 0 ≤ A2 e1 e2 c1 c2 p1 p2 ∧ 0 ≤ A2 c1 c2 a1 a2 p1 p2 := by
  obtain ⟨h0, h1, h2, h3, h4⟩ := h
  rw [sgn_zero] at h0
  have hs := weights a1 a2 e1 e2 c1 c2 p1 p2
  have w1 := weigh1 a1 a2 e1 e2 c1 c2 p1 p2
  have w2 := weigh2 a1 a2 e1 e2 c1 c2 p1 p2
  rw [h0] at hs w1 w2
  rw [Int.zero_mul, Int.add_zero] at w1 w2
  refine ⟨h0, ?_⟩
  by_cases he : a1 = e1
  · by_cases he2 : a2 = e2
    · subst he; subst he2
      rw [A2_eq] at hD
      simp at hD
    · exact box_mean hD (by omega) w2 h3 h4 he2
  · exact box_mean hD (by omega) w1 h1 h2 he
theorem in_edge {a1 a2 e1 e2 c1 c2 p1 p2 : Int} (hD : 0 < A2 a1 a2 e1 e2 c1 c2) (h0 : A2 a1 a2 e1 e2 p1 p2 = 0) (hy : 0 ≤ A2 e1 e2 c1 c2 p1 p2) (hz : 0 ≤ A2 c1 c2 a1 a2 p1 p2) : OnL p1 p2 a1 a2 e1 e2 := by
  have hs := weights a1 a2 e1 e2 c1 c2 p1 p2
  have w1 := weigh1 a1 a2 e1 e2 c1 c2 p1 p2
  have w2 := weigh2 a1 a2 e1 e2 c1 c2 p1 p2
  rw [h0] at hs w1 w2
  rw [Int.zero_mul, Int.add_zero] at w1 w2
  have k1 := mean_box hD hy hz (by omega) w1
  have k2 := mean_box hD hy hz (by omega) w2
  exact ⟨sgn_zero.2 h0, k1.1, k1.2, k2.1, k2.2⟩
theorem tri_in {a1 a2 e1 e2 c1 c2 p1 p2 : Int} (hD : 0 < A2 a1 a2 e1 e2 c1 c2) :
    (0 ≤ min (min (sgn (A2 a1 a2 e1 e2 p1 p2)) (sgn (A2 e1 e2 c1 c2 p1 p2))) (sgn (A2 c1 c2 a1 a2 p1 p2))) ↔
      (OnL p1 p2 a1 a2 e1 e2 ∨ OnL p1 p2 e1 e2 c1 c2 ∨ OnL p1 p2 c1 c2 a1 a2 ∨ min (min (sgn (A2 a1 a2 e1 e2 p1 p2)) (sgn (A2 e1 e2 c1 c2 p1 p2))) (sgn (A2 c1 c2 a1 a2 p1 p2)) = 1) := by
  have hD2 : 0 < A2 e1 e2 c1 c2 a1 a2 := by rw [A2_rot a1 a2 e1 e2 c1 c2]; exact hD
  have hD3 : 0 < A2 c1 c2 a1 a2 e1 e2 := by rw [A2_rot e1 e2 c1 c2 a1 a2]; exact hD2
  have hx := sgn_cases (A2 a1 a2 e1 e2 p1 p2)
  have hy := sgn_cases (A2 e1 e2 c1 c2 p1 p2)
  have hz := sgn_cases (A2 c1 c2 a1 a2 p1 p2)
  constructor
  · intro h
    by_cases x0 : A2 a1 a2 e1 e2 p1 p2 = 0
    · exact .inl (in_edge hD x0 (by omega) (by omega))
    by_cases y0 : A2 e1 e2 c1 c2 p1 p2 = 0
    · exact .inr (.inl (in_edge hD2 y0 (by omega) (by omega)))
    by_cases z0 : A2 c1 c2 a1 a2 p1 p2 = 0
    · exact .inr (.inr (.inl (in_edge hD3 z0 (by omega) (by omega))))
    exact .inr (.inr (.inr (by omega)))
  · rintro (h | h | h | h)
    · have := edge_in hD h; omega
    · have := edge_in hD2 h; omega
    · have := edge_in hD3 h; omega
    · omega
theorem inc_weights (a1 a2 e1 e2 c1 c2 p1 p2 : Int) : Inc a1 a2 e1 e2 c1 c2 p1 p2 = A2 e1 e2 c1 c2 p1 p2 * ((a1 - p1) * (a1 - p1) + (a2 - p2) * (a2 - p2)) + A2 c1 c2 a1 a2 p1 p2 * ((e1 - p1) * (e1 - p1) + (e2 - p2) * (e2 - p2)) + A2 a1 a2 e1 e2 p1 p2 * ((c1 - p1) * (c1 - p1) + (c2 - p2) * (c2 - p2)) := by
  rw [Inc_eq, A2_eq, A2_eq, A2_eq]; grind
theorem sq2_pos {x y : Int} (h : ¬ (x = 0 ∧ y = 0)) : 0 < x * x + y * y := by
  have h1 := sq_nonneg x
  have h2 := sq_nonneg y
  rcases Int.lt_or_le 0 (x * x + y * y) with q | q
  · exact q
  · exact absurd ⟨sq_zero (x := x) (by omega), sq_zero (x := y) (by omega)⟩ h
theorem tri_circle {a1 a2 e1 e2 c1 c2 p1 p2 : Int} (hD : 0 < A2 a1 a2 e1 e2 c1 c2)
    (h : 0 ≤ min (min (sgn (A2 a1 a2 e1 e2 p1 p2)) (sgn (A2 e1 e2 c1 c2 p1 p2))) (sgn (A2 c1 c2 a1 a2 p1 p2))) :
    (((p1 = a1 ∧ p2 = a2) ∨ (p1 = e1 ∧ p2 = e2) ∨ (p1 = c1 ∧ p2 = c2)) ∧ sgn (Inc a1 a2 e1 e2 c1 c2 p1 p2) = 0) ∨ (¬ ((p1 = a1 ∧ p2 = a2) ∨ (p1 = e1 ∧ p2 = e2) ∨ (p1 = c1 ∧ p2 = c2)) ∧ sgn (Inc a1 a2 e1 e2 c1 c2 p1 p2) = 1) := by
  have hx := sgn_cases (A2 a1 a2 e1 e2 p1 p2)
  have hy := sgn_cases (A2 e1 e2 c1 c2 p1 p2)
  have hz := sgn_cases (A2 c1 c2 a1 a2 p1 p2)
  have hs := weights a1 a2 e1 e2 c1 c2 p1 p2
  by_cases hcor : (p1 = a1 ∧ p2 = a2) ∨ (p1 = e1 ∧ p2 = e2) ∨ (p1 = c1 ∧ p2 = c2)
  · refine .inl ⟨hcor, sgn_eq ?_⟩
    rcases hcor with ⟨rfl, rfl⟩ | ⟨rfl, rfl⟩ | ⟨rfl, rfl⟩ <;> (rw [Inc_eq]; grind)
  · refine .inr ⟨hcor, sgn_gt ?_⟩
    rw [inc_weights]
    have qa : 0 < (a1 - p1) * (a1 - p1) + (a2 - p2) * (a2 - p2) := sq2_pos (by omega)
    have qe : 0 < (e1 - p1) * (e1 - p1) + (e2 - p2) * (e2 - p2) := sq2_pos (by omega)
    have qc : 0 < (c1 - p1) * (c1 - p1) + (c2 - p2) * (c2 - p2) := sq2_pos (by omega)
    generalize (a1 - p1) * (a1 - p1) + (a2 - p2) * (a2 - p2) = A at *
    generalize (e1 - p1) * (e1 - p1) + (e2 - p2) * (e2 - p2) = B at *
    generalize (c1 - p1) * (c1 - p1) + (c2 - p2) * (c2 - p2) = C at *
    generalize A2 a1 a2 e1 e2 p1 p2 = x at *
    generalize A2 e1 e2 c1 c2 p1 p2 = y at *
    generalize A2 c1 c2 a1 a2 p1 p2 = z at *
    have h1 : 0 ≤ y * A := Int.mul_nonneg (by omega) (by omega)
    have h2 : 0 ≤ z * B := Int.mul_nonneg (by omega) (by omega)
    have h3 : 0 ≤ x * C := Int.mul_nonneg (by omega) (by omega)
    by_cases y0 : 0 < y
    · have := pos_prod y0 qa; omega
    · by_cases z0 : 0 < z
      · have := pos_prod z0 qe; omega
      · have := pos_prod (show 0 < x by omega) qc; omega



theorem sgn_neg_b (a b : Int) : -9223372036854775808 ≤ -sgn a * sgn b ∧ -sgn a * sgn b ≤ 9223372036854775807 := by
  have h1 := sgn_cases a
  have h2 := sgn_cases b
  rcases h1 with ⟨_, h1⟩ | ⟨_, h1⟩ | ⟨_, h1⟩ <;> rcases h2 with ⟨_, h2⟩ | ⟨_, h2⟩ | ⟨_, h2⟩ <;> rw [h1, h2] <;> decide


end Go.Proofs.Ytbanlhlggkdanaa
