/- A plain law: looking for a point in a mesh of one triangle tells its place. -/
import Derived.Test.YtbanlhlggkdanaaH7
set_option linter.unusedSimpArgs false
set_option linter.unusedVariables false
namespace Go.Proofs.Ytbanlhlggkdanaa
open Go.RowKit




theorem in_vert {a1 a2 e1 e2 c1 c2 p1 p2 : Int} (hD : 0 < A2 a1 a2 e1 e2 c1 c2) (h0 : A2 e1 e2 c1 c2 p1 p2 = 0) (h1 : A2 c1 c2 a1 a2 p1 p2 = 0) : (c1, c2) = (p1, p2) := by
  have hs := weights a1 a2 e1 e2 c1 c2 p1 p2
  have hx := weigh1 a1 a2 e1 e2 c1 c2 p1 p2
  have hy := weigh2 a1 a2 e1 e2 c1 c2 p1 p2
  rw [h0, h1] at hx hy
  rw [h0, h1] at hs
  have hz : A2 a1 a2 e1 e2 p1 p2 = A2 a1 a2 e1 e2 c1 c2 := by omega
  rw [hz] at hx hy
  have g1 : A2 a1 a2 e1 e2 c1 c2 * c1 = A2 a1 a2 e1 e2 c1 c2 * p1 := by omega
  have g2 : A2 a1 a2 e1 e2 c1 c2 * c2 = A2 a1 a2 e1 e2 c1 c2 * p2 := by omega
  have h3 := Int.eq_of_mul_eq_mul_left (by omega) g1
  have h4 := Int.eq_of_mul_eq_mul_left (by omega) g2
  rw [h3, h4]
theorem A2_two (a1 a2 e1 e2 : Int) : A2 a1 a2 e1 e2 e1 e2 = 0 := by rw [A2_eq]; grind
theorem A2_one (a1 a2 e1 e2 : Int) : A2 a1 a2 e1 e2 a1 a2 = 0 := by rw [A2_eq]; grind
/-- what is told of a point that a triangle holds: by its three edges and points -/
theorem place_right {pts : List (Int × Int)} {a b c : Nat} {p : Int × Int} (hab : a ≠ b) (hbc : b ≠ c) (hca : c ≠ a)
    (hD : 0 < A2 (ptAt pts a).1 (ptAt pts a).2 (ptAt pts b).1 (ptAt pts b).2 (ptAt pts c).1 (ptAt pts c).2) (hh : hld pts ⟨a, b, c, 1, 2, 3, false, false, false⟩ p) :
    rght pts (triNew a b c) p (place pts ⟨a, b, c, 1, 2, 3, false, false, false⟩ 0 p) = true := by
  obtain ⟨p1, p2⟩ := p
  obtain ⟨h0, h1, h2⟩ := hh
  have k0 : 0 ≤ A2 (ptAt pts b).1 (ptAt pts b).2 (ptAt pts c).1 (ptAt pts c).2 p1 p2 := Int.not_lt.1 h0
  have k1 : 0 ≤ A2 (ptAt pts c).1 (ptAt pts c).2 (ptAt pts a).1 (ptAt pts a).2 p1 p2 := Int.not_lt.1 h1
  have k2 : 0 ≤ A2 (ptAt pts a).1 (ptAt pts a).2 (ptAt pts b).1 (ptAt pts b).2 p1 p2 := Int.not_lt.1 h2
  have hD1 : 0 < A2 (ptAt pts b).1 (ptAt pts b).2 (ptAt pts c).1 (ptAt pts c).2 (ptAt pts a).1 (ptAt pts a).2 := by rw [A2_rot]; exact hD
  have hD2 : 0 < A2 (ptAt pts c).1 (ptAt pts c).2 (ptAt pts a).1 (ptAt pts a).2 (ptAt pts b).1 (ptAt pts b).2 := by rw [A2_rot]; exact hD1
  have hh' : hld pts ⟨a, b, c, 1, 2, 3, false, false, false⟩ (p1, p2) := ⟨h0, h1, h2⟩
  have hr : isReal (triNew a b c) 0 := ⟨Int.le_refl _, ⟨a, b, c, 1, 2, 3, false, false, false⟩, rfl, by unfold Tr.real; dsimp only; omega⟩
  have ht : (triNew a b c)[(0 : Int).toNat]? = some ⟨a, b, c, 1, 2, 3, false, false, false⟩ := rfl
  have red : ∀ x : Pl, x.2.1 = 0 → rght pts (triNew a b c) (p1, p2) x = rEnd pts (triNew a b c) (p1, p2) x ⟨a, b, c, 1, 2, 3, false, false, false⟩
      (true, [0, 1, 2].foldl (rStep pts (p1, p2) ⟨a, b, c, 1, 2, 3, false, false, false⟩) (-1, 0, 0)) := by
    rintro ⟨x1, x2, x3, x4⟩ hx
    dsimp only at hx
    subst hx
    unfold rght
    rw [if_neg (show ¬ (0 : Int) < 0 by decide), triNew_reals]
    dsimp only
    rw [ht]
    show rEnd _ _ _ _ _ (rTri pts (p1, p2) (false, -1, 0, 0) (0, ⟨a, b, c, 1, 2, 3, false, false, false⟩)) = _
    unfold rTri
    rw [show (false || decide (hld pts ⟨a, b, c, 1, 2, 3, false, false, false⟩ (p1, p2))) = true by simp [hh']]
  have pt0 : (place pts ⟨a, b, c, 1, 2, 3, false, false, false⟩ 0 (p1, p2)).2.1 = 0 := by
    unfold place
    (repeat' split) <;> rfl
  rw [red _ pt0]
  clear red pt0 ht
  have st : [0, 1, 2].foldl (rStep pts (p1, p2) ⟨a, b, c, 1, 2, 3, false, false, false⟩) (-1, 0, 0) =
    (if ptAt pts a = (p1, p2) then (a : Int) else if ptAt pts c = (p1, p2) then (c : Int) else if ptAt pts b = (p1, p2) then (b : Int) else -1,
     if A2 (ptAt pts a).1 (ptAt pts a).2 (ptAt pts b).1 (ptAt pts b).2 p1 p2 = 0 ∧ Btw p1 p2 (ptAt pts a).1 (ptAt pts a).2 (ptAt pts b).1 (ptAt pts b).2 then (min (a : Int) b, max (a : Int) b)
     else if A2 (ptAt pts c).1 (ptAt pts c).2 (ptAt pts a).1 (ptAt pts a).2 p1 p2 = 0 ∧ Btw p1 p2 (ptAt pts c).1 (ptAt pts c).2 (ptAt pts a).1 (ptAt pts a).2 then (min (c : Int) a, max (c : Int) a)
     else if A2 (ptAt pts b).1 (ptAt pts b).2 (ptAt pts c).1 (ptAt pts c).2 p1 p2 = 0 ∧ Btw p1 p2 (ptAt pts b).1 (ptAt pts b).2 (ptAt pts c).1 (ptAt pts c).2 then (min (b : Int) c, max (b : Int) c) else (0, 0)) := rfl
  rw [st]
  clear st
  have pl : place pts ⟨a, b, c, 1, 2, 3, false, false, false⟩ 0 (p1, p2) =
    if ptAt pts a = (p1, p2) then (2, 0, (a : Int), 0) else if ptAt pts b = (p1, p2) then (2, 0, (b : Int), 0) else if ptAt pts c = (p1, p2) then (2, 0, (c : Int), 0)
    else if A2 (ptAt pts b).1 (ptAt pts b).2 (ptAt pts c).1 (ptAt pts c).2 p1 p2 = 0 then (1, 0, min (b : Int) c, max (b : Int) c) else if A2 (ptAt pts c).1 (ptAt pts c).2 (ptAt pts a).1 (ptAt pts a).2 p1 p2 = 0 then (1, 0, min (c : Int) a, max (c : Int) a)
    else if A2 (ptAt pts a).1 (ptAt pts a).2 (ptAt pts b).1 (ptAt pts b).2 p1 p2 = 0 then (1, 0, min (a : Int) b, max (a : Int) b) else (0, 0, 0, 0) := rfl
  rw [pl]
  clear pl
  have ne : ∀ {x y : Int × Int} {z : Int × Int}, 0 < A2 x.1 x.2 y.1 y.2 z.1 z.2 → x = (p1, p2) → y = (p1, p2) → False := by
    rintro ⟨x1, x2⟩ ⟨y1, y2⟩ ⟨z1, z2⟩ h hx hy
    rw [hx, hy] at h
    rw [A2_eq] at h
    simp at h
  by_cases qa : ptAt pts a = (p1, p2)
  · rw [if_pos qa, if_pos qa]
    simp [rEnd, hr, hasV]
  · by_cases qb : ptAt pts b = (p1, p2)
    · have qc : ¬ ptAt pts c = (p1, p2) := fun q => ne hD1 qb q
      rw [if_neg qa, if_pos qb, if_neg qa, if_neg qc, if_pos qb]
      simp [rEnd, hr, hasV]
    · by_cases qc : ptAt pts c = (p1, p2)
      · rw [if_neg qa, if_neg qb, if_pos qc, if_neg qa, if_pos qc]
        simp [rEnd, hr, hasV]
      · rw [if_neg qa, if_neg qb, if_neg qc, if_neg qa, if_neg qc, if_neg qb]
        have n1 : ∀ {x : Int × Int}, ¬ x = (p1, p2) → ¬ (p1 = x.1 ∧ p2 = x.2) := fun {x} h ⟨e1, e2⟩ => h (Prod.ext e1.symm e2.symm)
        have B2 : A2 (ptAt pts a).1 (ptAt pts a).2 (ptAt pts b).1 (ptAt pts b).2 p1 p2 = 0 → Btw p1 p2 (ptAt pts a).1 (ptAt pts a).2 (ptAt pts b).1 (ptAt pts b).2 := fun h => ⟨n1 qa, n1 qb, in_edge hD h k0 k1⟩
        have B1 : A2 (ptAt pts c).1 (ptAt pts c).2 (ptAt pts a).1 (ptAt pts a).2 p1 p2 = 0 → Btw p1 p2 (ptAt pts c).1 (ptAt pts c).2 (ptAt pts a).1 (ptAt pts a).2 := fun h => ⟨n1 qc, n1 qa, in_edge hD2 h k2 k0⟩
        have B0 : A2 (ptAt pts b).1 (ptAt pts b).2 (ptAt pts c).1 (ptAt pts c).2 p1 p2 = 0 → Btw p1 p2 (ptAt pts b).1 (ptAt pts b).2 (ptAt pts c).1 (ptAt pts c).2 := fun h => ⟨n1 qb, n1 qc, in_edge hD1 h k1 k2⟩
        by_cases E0 : A2 (ptAt pts b).1 (ptAt pts b).2 (ptAt pts c).1 (ptAt pts c).2 p1 p2 = 0
        · have E1 : ¬ A2 (ptAt pts c).1 (ptAt pts c).2 (ptAt pts a).1 (ptAt pts a).2 p1 p2 = 0 := fun q => qc (in_vert hD E0 q)
          have E2 : ¬ A2 (ptAt pts a).1 (ptAt pts a).2 (ptAt pts b).1 (ptAt pts b).2 p1 p2 = 0 := fun q => qb (in_vert hD2 q E0)
          rw [if_pos E0, if_neg (fun q => E2 q.1), if_neg (fun q => E1 q.1), if_pos ⟨E0, B0 E0⟩]
          have m1 : ¬ (min (b : Int) c = 0 ∧ max (b : Int) c = 0) := by omega
          have m2 : (b : Int) = min (b : Int) c ∨ (c : Int) = min (b : Int) c := by omega
          have m3 : (b : Int) = max (b : Int) c ∨ (c : Int) = max (b : Int) c := by omega
          unfold rEnd hasV
          simp only [hr, m1, not_true_eq_false, not_false_eq_true, if_true, if_false, reduceIte, reduceCtorEq, true_and, decide_eq_true_eq, and_self, Bool.true_eq_false, show ¬ (0 : Int) ≤ -1 by decide]
          exact ⟨.inr m2, .inr m3⟩
        · rw [if_neg E0]
          by_cases E1 : A2 (ptAt pts c).1 (ptAt pts c).2 (ptAt pts a).1 (ptAt pts a).2 p1 p2 = 0
          · have E2 : ¬ A2 (ptAt pts a).1 (ptAt pts a).2 (ptAt pts b).1 (ptAt pts b).2 p1 p2 = 0 := fun q => qa (in_vert hD1 E1 q)
            rw [if_pos E1, if_neg (fun q => E2 q.1), if_pos ⟨E1, B1 E1⟩]
            have m1 : ¬ (min (c : Int) a = 0 ∧ max (c : Int) a = 0) := by omega
            have m2 : (a : Int) = min (c : Int) a ∨ (c : Int) = min (c : Int) a := by omega
            have m3 : (a : Int) = max (c : Int) a ∨ (c : Int) = max (c : Int) a := by omega
            unfold rEnd hasV
            simp only [hr, m1, not_true_eq_false, not_false_eq_true, if_true, if_false, reduceIte, reduceCtorEq, true_and, decide_eq_true_eq, and_self, Bool.true_eq_false, show ¬ (0 : Int) ≤ -1 by decide]
            exact ⟨m2.elim .inl (fun q => .inr (.inr q)), m3.elim .inl (fun q => .inr (.inr q))⟩
          · rw [if_neg E1]
            by_cases E2 : A2 (ptAt pts a).1 (ptAt pts a).2 (ptAt pts b).1 (ptAt pts b).2 p1 p2 = 0
            · rw [if_pos E2, if_pos ⟨E2, B2 E2⟩]
              have m1 : ¬ (min (a : Int) b = 0 ∧ max (a : Int) b = 0) := by omega
              have m2 : (a : Int) = min (a : Int) b ∨ (b : Int) = min (a : Int) b := by omega
              have m3 : (a : Int) = max (a : Int) b ∨ (b : Int) = max (a : Int) b := by omega
              unfold rEnd hasV
              simp only [hr, m1, not_true_eq_false, not_false_eq_true, if_true, if_false, reduceIte, reduceCtorEq, true_and, decide_eq_true_eq, and_self, Bool.true_eq_false, show ¬ (0 : Int) ≤ -1 by decide]
              exact ⟨m2.elim .inl (fun q => .inr (.inl q)), m3.elim .inl (fun q => .inr (.inl q))⟩
            · rw [if_neg E2, if_neg (fun q => E2 q.1), if_neg (fun q => E1 q.1), if_neg (fun q => E0 q.1)]
              unfold rEnd
              simp only [hr, not_true_eq_false, not_false_eq_true, if_true, if_false, reduceIte, reduceCtorEq, true_and, decide_eq_true_eq, and_self, Bool.true_eq_false, show ¬ (0 : Int) ≤ -1 by decide]
              omega
theorem new_right {pts : List (Int × Int)} {a b c : Nat} {p : Int × Int} (hab : a ≠ b) (hbc : b ≠ c) (hca : c ≠ a)
    (hD : 0 < A2 (ptAt pts a).1 (ptAt pts a).2 (ptAt pts b).1 (ptAt pts b).2 (ptAt pts c).1 (ptAt pts c).2) : rght pts (triNew a b c) p (look pts (triNew a b c) p) = true := by
  by_cases hh : hld pts ⟨a, b, c, 1, 2, 3, false, false, false⟩ p
  · rw [look_found (pre := []) (x := (0, ⟨a, b, c, 1, 2, 3, false, false, false⟩)) (fun _ h => nomatch h) hh (by rw [triNew_reals]; exact List.prefix_refl _)]
    exact place_right hab hbc hca hD hh
  · rw [look_none (fun y hy => by rw [triNew_reals] at hy; rcases List.mem_singleton.1 hy with rfl; exact hh)]
    have r1 : ¬ isReal (triNew a b c) 1 := fun ⟨_, t, ht, hr⟩ => by
      have e : t = ⟨c, b, -1, 3, 2, 0, false, false, false⟩ := (Option.some.inj ht).symm
      subst e; exact absurd hr.2.2 (show ¬ (0 : Int) ≤ -1 by decide)
    have r2 : ¬ isReal (triNew a b c) 2 := fun ⟨_, t, ht, hr⟩ => by
      have e : t = ⟨a, c, -1, 1, 3, 0, false, false, false⟩ := (Option.some.inj ht).symm
      subst e; exact absurd hr.2.2 (show ¬ (0 : Int) ≤ -1 by decide)
    have r3 : ¬ isReal (triNew a b c) 3 := fun ⟨_, t, ht, hr⟩ => by
      have e : t = ⟨b, a, -1, 2, 1, 0, false, false, false⟩ := (Option.some.inj ht).symm
      subst e; exact absurd hr.2.2 (show ¬ (0 : Int) ≤ -1 by decide)
    rw [triNew_reals]
    have lk : [((0 : Nat), (⟨a, b, c, 1, 2, 3, false, false, false⟩ : Tr))].foldl (lookTri pts (triNew a b c) p) (-1) =
      [0, 1, 2].foldl (lookStep pts (triNew a b c) p ⟨a, b, c, 1, 2, 3, false, false, false⟩) (-1) := rfl
    rw [lk]
    have s0 : ∀ o, lookStep pts (triNew a b c) p ⟨a, b, c, 1, 2, 3, false, false, false⟩ o 0 = if bey pts ⟨a, b, c, 1, 2, 3, false, false, false⟩ 0 p ∧ (o < 0 ∨ 1 < o) then 1 else o := fun o => by
      show (if ¬ isReal (triNew a b c) 1 ∧ _ ∧ (o < 0 ∨ 1 < o) then (1 : Int) else o) = _
      simp only [r1, not_false_eq_true, true_and]
    have s1 : ∀ o, lookStep pts (triNew a b c) p ⟨a, b, c, 1, 2, 3, false, false, false⟩ o 1 = if bey pts ⟨a, b, c, 1, 2, 3, false, false, false⟩ 1 p ∧ (o < 0 ∨ 2 < o) then 2 else o := fun o => by
      show (if ¬ isReal (triNew a b c) 2 ∧ _ ∧ (o < 0 ∨ 2 < o) then (2 : Int) else o) = _
      simp only [r2, not_false_eq_true, true_and]
    have s2 : ∀ o, lookStep pts (triNew a b c) p ⟨a, b, c, 1, 2, 3, false, false, false⟩ o 2 = if bey pts ⟨a, b, c, 1, 2, 3, false, false, false⟩ 2 p ∧ (o < 0 ∨ 3 < o) then 3 else o := fun o => by
      show (if ¬ isReal (triNew a b c) 3 ∧ _ ∧ (o < 0 ∨ 3 < o) then (3 : Int) else o) = _
      simp only [r3, not_false_eq_true, true_and]
    simp only [List.foldl_cons, List.foldl_nil, s0, s1, s2]
    have fin : ∀ (u : Int) (g : Tr), 0 ≤ u → (triNew a b c)[u.toNat]? = some g → ¬ isReal (triNew a b c) u → rGhost pts p g = true → rght pts (triNew a b c) p (3, u, 0, 0) = true := by
      intro u g h0 hg hr hgh
      unfold rght
      rw [if_neg (by show ¬ u < 0; omega)]
      dsimp only
      rw [hg, triNew_reals]
      show rEnd pts (triNew a b c) p (3, u, 0, 0) g (rTri pts p (false, -1, 0, 0) (0, ⟨a, b, c, 1, 2, 3, false, false, false⟩)) = true
      unfold rEnd rTri
      simp [hh, hr, hgh]
    have gh : ∀ (x y : Nat), A2 (ptAt pts y).1 (ptAt pts y).2 (ptAt pts x).1 (ptAt pts x).2 p.1 p.2 < 0 → ∀ n0 n1 n2, rGhost pts p ⟨x, y, -1, n0, n1, n2, false, false, false⟩ = true := by
      intro x y h n0 n1 n2
      have := A2_swap (ptAt pts y).1 (ptAt pts y).2 (ptAt pts x).1 (ptAt pts x).2 p.1 p.2
      unfold rGhost
      rw [if_neg (by dsimp only; omega), if_neg (by dsimp only; omega), if_pos rfl]
      dsimp only
      rw [this]
      exact decide_eq_true (by omega)
    by_cases b0 : bey pts ⟨a, b, c, 1, 2, 3, false, false, false⟩ 0 p
    · simp only [b0, true_and, show ((-1 : Int) < 0 ∨ (1 : Int) < -1) = True by simp, if_true, show ¬ ((1 : Int) < 0 ∨ (2 : Int) < 1) by omega, and_false, if_false, show ¬ ((1 : Int) < 0 ∨ (3 : Int) < 1) by omega]
      exact fin 1 _ (by decide) rfl r1 (gh c b b0 _ _ _)
    · by_cases b1 : bey pts ⟨a, b, c, 1, 2, 3, false, false, false⟩ 1 p
      · simp only [b0, b1, false_and, true_and, show ((-1 : Int) < 0 ∨ (2 : Int) < -1) = True by simp, if_true, show ¬ ((2 : Int) < 0 ∨ (3 : Int) < 2) by omega, and_false, if_false]
        exact fin 2 _ (by decide) rfl r2 (gh a c b1 _ _ _)
      · by_cases b2 : bey pts ⟨a, b, c, 1, 2, 3, false, false, false⟩ 2 p
        · simp only [b0, b1, b2, false_and, true_and, show ((-1 : Int) < 0 ∨ (3 : Int) < -1) = True by simp, if_true, if_false]
          exact fin 3 _ (by decide) rfl r3 (gh b a b2 _ _ _)
        · exact absurd ⟨b0, b1, b2⟩ hh


end Go.Proofs.Ytbanlhlggkdanaa
