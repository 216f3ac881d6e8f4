/- Plain laws on words: what lists of words stand for, without a program. -/
set_option linter.unusedSimpArgs false
set_option linter.unusedVariables false
namespace Go.Proofs.Ytbanlhlggkdanaa

def BB : Nat := 18446744073709551616
def val : List Nat → Nat
  | [] => 0
  | x :: l => x + BB * val l
def W64 (l : List Nat) : Prop := ∀ x, x ∈ l → x < BB
def digits (n : Nat) : List Nat := if h : n = 0 then [] else (n % BB) :: digits (n / BB)
termination_by n
decreasing_by exact Nat.div_lt_self (Nat.pos_of_ne_zero h) (by decide)

theorem digits_zero : digits 0 = [] := by rw [digits]; simp
theorem digits_pos {n : Nat} (h : n ≠ 0) : digits n = (n % BB) :: digits (n / BB) := by rw [digits]; simp [h]
theorem BB_pos : 0 < BB := by decide

theorem val_digits (n : Nat) : val (digits n) = n := by
  induction n using Nat.strongRecOn with
  | _ n ih =>
    by_cases h : n = 0
    · subst h; rw [digits_zero]; rfl
    · rw [digits_pos h, val, ih _ (Nat.div_lt_self (Nat.pos_of_ne_zero h) (by decide))]
      exact Nat.mod_add_div n BB
theorem digits_w (n : Nat) : W64 (digits n) := by
  induction n using Nat.strongRecOn with
  | _ n ih =>
    by_cases h : n = 0
    · subst h; rw [digits_zero]; intro x hx; cases hx
    · rw [digits_pos h]
      intro x hx
      rcases List.mem_cons.1 hx with rfl | hx
      · exact Nat.mod_lt _ BB_pos
      · exact ih _ (Nat.div_lt_self (Nat.pos_of_ne_zero h) (by decide)) x hx
theorem digits_nil {n : Nat} : digits n = [] ↔ n = 0 := by
  constructor
  · intro h
    have := val_digits n
    rw [h] at this
    exact this.symm
  · rintro rfl; exact digits_zero
/-- words without a nought at the end are the digits of what they stand for -/
theorem digits_val : ∀ (l : List Nat), W64 l → (∀ h : l ≠ [], l.getLast h ≠ 0) → digits (val l) = l
  | [], _, _ => digits_zero
  | [x], hw, hl => by
    have hx : x < BB := hw x (.head _)
    have h0 : x ≠ 0 := hl (by simp)
    have hv : val [x] = x := by simp [val]
    rw [hv, digits_pos h0, Nat.mod_eq_of_lt hx, Nat.div_eq_of_lt hx, digits_zero]
  | x :: y :: l, hw, hl => by
    have hx : x < BB := hw x (.head _)
    have ih := digits_val (y :: l) (fun z hz => hw z (.tail _ hz)) (fun h => by have := hl (by simp); rwa [List.getLast_cons h] at this)
    have hne : val (y :: l) ≠ 0 := fun h => by rw [h, digits_zero] at ih; cases ih
    have hv : val (x :: y :: l) = x + BB * val (y :: l) := rfl
    have hp := BB_pos
    have hne2 : x + BB * val (y :: l) ≠ 0 := by
      have := Nat.mul_pos hp (Nat.pos_of_ne_zero hne); omega
    rw [hv, digits_pos hne2, Nat.add_mul_mod_self_left, Nat.mod_eq_of_lt hx, Nat.add_mul_div_left _ _ hp, Nat.div_eq_of_lt hx, Nat.zero_add, ih]

theorem val_append (l r : List Nat) : val (l ++ r) = val l + BB ^ l.length * val r := by
  induction l with
  | nil => simp [val]
  | cons x l ih => simp only [List.cons_append, val, ih, List.length_cons, Nat.pow_succ, Nat.mul_add, Nat.add_assoc]; congr 2; rw [Nat.mul_comm (BB ^ l.length) BB, Nat.mul_assoc]
theorem val_take_succ {l : List Nat} {k : Nat} (h : k < l.length) : val (l.take (k + 1)) = val (l.take k) + BB ^ k * l.getD k 0 := by
  rw [List.take_succ_eq_append_getElem h, val_append]
  simp [val, List.length_take, Nat.min_eq_left (Nat.le_of_lt h), List.getD, List.getElem?_eq_getElem h]
theorem val_take_all {l : List Nat} {k : Nat} (h : l.length ≤ k) : val (l.take k) = val l := by rw [List.take_of_length_le h]
theorem W64.take {l : List Nat} (h : W64 l) (k : Nat) : W64 (l.take k) := fun x hx => h x (List.mem_of_mem_take hx)
theorem W64.getD {l : List Nat} (h : W64 l) (k : Nat) : l.getD k 0 < BB := by
  rcases Nat.lt_or_ge k l.length with hk | hk
  · rw [List.getD, List.getElem?_eq_getElem hk]; exact h _ (List.getElem_mem hk)
  · rw [List.getD, List.getElem?_eq_none hk]; exact BB_pos
/-- where the words from k on are noughts, and the one ahead is none -/
theorem digits_take {l : List Nat} {k : Nat} (hw : W64 l) (hk : k ≤ l.length) (hv : val (l.take k) = val l) (h0 : k = 0 ∨ l.getD (k - 1) 0 ≠ 0) : digits (val l) = l.take k := by
  rw [← hv]
  refine digits_val _ (hw.take k) fun hne => ?_
  have hk0 : k ≠ 0 := fun e => by subst e; simp at hne
  have h1 := h0.resolve_left hk0
  have hkl : k - 1 < l.length := by omega
  have hlen : (l.take k).length = k := by simp; omega
  rw [List.getLast_eq_getElem]
  simp only [hlen, List.getElem_take]
  rw [List.getD, List.getElem?_eq_getElem hkl] at h1
  exact h1
theorem val_lt {l : List Nat} (hw : W64 l) : val l < BB ^ l.length := by
  induction l with
  | nil => simp [val]
  | cons x l ih =>
    have hx : x < BB := hw x (.head _)
    have := ih (fun y hy => hw y (.tail _ hy))
    simp only [val, List.length_cons, Nat.pow_succ]
    have h2 : BB * val l + BB ≤ BB * BB ^ l.length := by
      rw [← Nat.mul_succ]; exact Nat.mul_le_mul_left _ this
    rw [Nat.mul_comm (BB ^ l.length) BB]
    omega
theorem digits_len {n k : Nat} (h : n < BB ^ k) : (digits n).length ≤ k := by
  induction k generalizing n with
  | zero =>
    have : n = 0 := by simp at h; omega
    subst this; rw [digits_zero]; simp
  | succ k ih =>
    by_cases h0 : n = 0
    · subst h0; rw [digits_zero]; simp
    · rw [digits_pos h0]
      have : n / BB < BB ^ k := by
        rw [Nat.div_lt_iff_lt_mul BB_pos]
        rwa [Nat.pow_succ] at h
      have := ih this
      simp; omega
theorem val_zeros (k : Nat) : val (List.replicate k 0) = 0 := by
  induction k with
  | zero => rfl
  | succ k ih => simp [List.replicate_succ, val, ih]
theorem W64.nil : W64 [] := fun _ h => nomatch h
theorem W64.append {l r : List Nat} (h : W64 l) (h' : W64 r) : W64 (l ++ r) := fun x hx => (List.mem_append.1 hx).elim (h x) (h' x)
theorem W64.one {x : Nat} (h : x < BB) : W64 [x] := fun y hy => by rcases List.mem_singleton.1 hy with rfl; exact h

/-- the words of a comparison from the top -/
theorem val_cmp_lt {l r : List Nat} {k : Nat} (hl : W64 l) (hlen : l.length = r.length) (hk : k < l.length) (he : l.drop (k + 1) = r.drop (k + 1)) (hlt : l.getD k 0 < r.getD k 0) : val l < val r := by
  have hkr : k < r.length := by omega
  have e1 : l = l.take k ++ (l.getD k 0 :: l.drop (k + 1)) := by
    rw [List.getD, List.getElem?_eq_getElem hk, Option.getD_some, List.getElem_cons_drop, List.take_append_drop]
  have e2 : r = r.take k ++ (r.getD k 0 :: r.drop (k + 1)) := by
    rw [List.getD, List.getElem?_eq_getElem hkr, Option.getD_some, List.getElem_cons_drop, List.take_append_drop]
  have v1 : val l = val (l.take k) + BB ^ k * (l.getD k 0 + BB * val (l.drop (k + 1))) := by
    conv => lhs; rw [e1, val_append]
    simp [val, Nat.min_eq_left (Nat.le_of_lt hk)]
  have v2 : val r = val (r.take k) + BB ^ k * (r.getD k 0 + BB * val (r.drop (k + 1))) := by
    conv => lhs; rw [e2, val_append]
    simp [val, Nat.min_eq_left (Nat.le_of_lt hkr)]
  have h1 := val_lt (hl.take k)
  rw [show (l.take k).length = k by simp; omega] at h1
  rw [v1, v2, he]
  have : BB ^ k * (l.getD k 0 + BB * val (r.drop (k + 1))) + BB ^ k ≤ BB ^ k * (r.getD k 0 + BB * val (r.drop (k + 1))) := by
    rw [← Nat.mul_succ]; exact Nat.mul_le_mul_left _ (by omega)
  omega
theorem val_ext {l r : List Nat} (hlen : l.length = r.length) (h : ∀ k, k < l.length → l.getD k 0 = r.getD k 0) : l = r := by
  apply List.ext_getElem hlen
  intro k h1 h2
  have := h k h1
  rw [List.getD, List.getD, List.getElem?_eq_getElem h1, List.getElem?_eq_getElem h2] at this
  exact this
theorem digits_len_lt {n m : Nat} (h : (digits n).length < (digits m).length) : n < m := by
  have h1 := val_lt (digits_w n)
  rw [val_digits] at h1
  rcases Nat.lt_or_ge n m with h' | h'
  · exact h'
  · have : m < BB ^ (digits n).length := Nat.lt_of_le_of_lt h' h1
    have := digits_len this
    omega
end Go.Proofs.Ytbanlhlggkdanaa
