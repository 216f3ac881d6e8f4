/- The walks of the functions of mag: Of, Len, Cmp. -/
import Derived.Test.YtbanlhlggkdanaaM1
import Derived.Test.YtbanlhlggkdanaaW3
set_option linter.unusedSimpArgs false
set_option linter.unusedVariables false
namespace Go.Proofs.Ytbanlhlggkdanaa
open Go.RowKit

theorem ent_76 : Enter Try.prog 76 = true := by kernel_rfl
theorem zer_108 : zer Try.prog 108 = some (.int .u64 0) := by kernel_rfl
theorem ent_102 : Enter Try.prog 102 = true := by kernel_rfl
theorem ent_79 : Enter Try.prog 79 = true := by kernel_rfl


/-- a result that is the digits of a number -/
abbrev RetM (v : Nat) : Value → List Res → List Res → Prop := RetX (fun x : Option Addr × Nat => (digits v).length ≤ x.2) (fun x => .slice x.1 (digits v).length x.2) (fun _ => []) (fun x => [dF x.1 v])
theorem bitLenAux_le : ∀ (f x : Nat), Lib.bitLenAux f x ≤ f
  | 0, _ => Nat.le_refl _
  | f + 1, x => by
    simp only [Lib.bitLenAux]
    split
    · omega
    · have := bitLenAux_le f (x / 2); omega
theorem bitLen_le (x : Nat) : Lib.bitLen x ≤ 64 := bitLenAux_le 64 x
theorem bitLen_pos {x : Nat} (h : x ≠ 0) : 1 ≤ Lib.bitLen x := by
  unfold Lib.bitLen
  simp only [Lib.bitLenAux, h, if_false]
  omega
theorem digits_len_zero {v : Nat} : (digits v).length = 0 ↔ v = 0 := by rw [List.length_eq_zero_iff, digits_nil]
theorem digits_top {v : Nat} (h : v ≠ 0) : (digits v).getD ((digits v).length - 1) 0 ≠ 0 := by
  have hne : digits v ≠ [] := fun e => h (digits_nil.1 e)
  have hl : (digits v).length ≠ 0 := fun e => h (digits_len_zero.1 e)
  have key : ∀ (n : Nat), n ≠ 0 → ∀ h : digits n ≠ [], (digits n).getLast h ≠ 0 := by
    intro n
    induction n using Nat.strongRecOn with
    | _ n ih =>
      intro hn hh
      by_cases h0 : n / BB = 0
      · have e : digits n = [n % BB] := by rw [digits_pos hn, h0, digits_zero]
        simp only [e, List.getLast_singleton]
        have := Nat.mod_add_div n BB
        rw [h0] at this
        simp at this
        omega
      · have e : digits n = (n % BB) :: digits (n / BB) := digits_pos hn
        have hn2 : digits (n / BB) ≠ [] := fun e => h0 (digits_nil.1 e)
        have h3 := ih _ (Nat.div_lt_self (Nat.pos_of_ne_zero hn) (by decide)) h0 hn2
        simp only [e, List.getLast_cons hn2]
        exact h3
  have h4 := key v h hne
  rw [List.getLast_eq_getElem] at h4
  rw [List.getD, List.getElem?_eq_getElem (by omega)]
  exact h4
theorem U_get' {l : List Nat} {j k : Nat} (h : j = k) (hk : k < l.length) : (U l)[j]? = some (.int .u64 ((l.getD k 0 : Nat) : Int)) := by subst h; exact U_get hk
theorem len_top {v c : Nat} : ∀ (r : Int), r = 64 * (((digits v).length : Int) - 1) + (Lib.bitLen c : Int) → c = (digits v).getD ((digits v).length - 1) 0 → (digits v).length ≠ 0 → (r = 0 ↔ v = 0) ∧ 0 ≤ r := by
  rintro r rfl hc hl
  have hv : v ≠ 0 := fun e => hl (digits_len_zero.2 e)
  have := digits_top hv
  have hb := bitLen_pos (x := c) (by omega)
  omega


set_option maxRecDepth 100000 in
set_option maxHeartbeats 1000000 in
theorem mof_c {x : Nat} (hx : x < BB) : Tri Try.prog 76 [.int .u64 (x : Int)] [] [] (RetM x) := by
  refine Tri_of (N := 6) Try.func76 rfl ent_76 rfl rfl ?_
  intro w0 S0 T0
  show CJ _ _ _ [(0, _)] _ _
  have hw : W64 [x] := W64.one hx
  have hv : val [x] = x := by simp [val]
  refine CJ_seq ?_
  refine CJ_reg ?_
  refine LJ_y rfl rfl (YJ_assign rfl) ?_
  refine LJ_nil ?_
  refine QJ_then ?_
  refine CJ_seq ?_
  refine CJ_reg ?_
  refine LJ_y rfl rfl (YJ_move rfl) ?_
  refine LJ_buildSlice (cs := [_]) rfl rfl elt_98 zer_108 rfl (by decide) (pvs := [(_, _)]) rfl rfl rfl ?_
  intro b1
  refine LJ_freeze ?_
  refine LJ_addF (r' := lF (some ⟨b1, 0, none⟩) [x]) (.head _) (fun w S h => cellsR_slice (n := 1) rfl w S h) ?_
  refine LJ_callF rfl rfl rfl rfl rfl (right_c (l := [x]) rfl hw (by simp) (by simp)) (AllIn.sub (by first | exact trivial | exact And.intro (by repeat first | exact .head _ | apply List.Mem.tail) trivial | exact And.intro (by repeat first | exact .head _ | apply List.Mem.tail) (And.intro (by repeat first | exact .head _ | apply List.Mem.tail) trivial))) ?_
  rw [hv]
  simp only [List.cons_append, List.nil_append]
  refine LJ_y rfl rfl (YJ_assign rfl) ?_
  refine LJ_nil ?_
  refine QJ_then ?_
  refine CJ_ret ?_
  refine QJ_fin (.inl rfl) (μ' := []) (μr := _) (φ' := [dF (some ⟨b1, 0, none⟩) x]) (res_tmp rfl rfl) (List.Perm.refl _) (AllIn.sub (And.intro (.head _) trivial)) ?_
  exact ⟨(_, 1), by have := digits_len (n := x) (k := 1) (by simpa using hx); exact this, rfl, rfl, rfl⟩

set_option maxRecDepth 100000 in
set_option maxHeartbeats 1000000 in
theorem mlen_c {A : Option Addr} {n c : Nat} {l : List Nat} (hn : n = l.length) (hw : W64 l) (hl : l.length ≤ 1000000) (hc : l.length ≤ c) : Tri Try.prog 102 [.slice A n c] [] [lF A l] (RetX (fun r : Int => (r = 0 ↔ val l = 0) ∧ 0 ≤ r) (fun r => .int .i64 r) (fun _ => []) (fun _ => [])) := by
  refine Tri_of (N := 20) Try.func102 rfl ent_102 rfl rfl ?_
  intro w0 S0 T0
  show CJ _ _ _ [(0, _)] _ _
  subst hn
  have hd : (digits (val l)).length ≤ 1000000 := Nat.le_trans (digits_len (val_lt hw)) hl
  refine CJ_seq ?_
  refine CJ_reg ?_
  refine LJ_y rfl rfl (YJ_assign rfl) ?_
  refine LJ_nil ?_
  refine QJ_then ?_
  refine CJ_seq ?_
  refine CJ_reg ?_
  refine LJ_y rfl rfl (YJ_move rfl) ?_
  refine LJ_callF rfl rfl rfl rfl rfl (right_c rfl (by assumption) (by omega) (by omega)) (AllIn.sub (by first | exact trivial | exact And.intro (by repeat first | exact .head _ | apply List.Mem.tail) trivial | exact And.intro (by repeat first | exact .head _ | apply List.Mem.tail) (And.intro (by repeat first | exact .head _ | apply List.Mem.tail) trivial))) ?_
  simp only [List.cons_append, List.nil_append]
  refine LJ_y rfl rfl (YJ_assign rfl) ?_
  refine LJ_nil ?_
  refine QJ_then ?_
  refine CJ_seq ?_
  refine CJ_seq ?_
  refine CJ_reg ?_
  refine LJ_y rfl rfl (YJ_move rfl) ?_
  refine LJ_y rfl rfl (YJ_len rfl ulen_98 rfl) ?_
  refine LJ_y rfl rfl (YJ_bin rfl rfl rfl) ?_
  refine LJ_nil ?_
  refine QJ_then ?_
  refine CJ_cond rfl (fun h7 => ?_) (fun h7 => ?_)
  · try simp only [decide_eq_true_eq, decide_eq_false_iff_not, Bool.not_eq_true', Bool.not_eq_false', Bool.and_eq_true, Bool.and_eq_false_iff, beq_iff_eq, bne_iff_ne, beq_eq_false_iff_ne, bne_eq_false_iff_eq, ne_eq, decide_eq_decide] at h7
    refine CJ_seq ?_
    refine CJ_reg ?_
    refine LJ_y rfl rfl (YJ_assign rfl) ?_
    refine LJ_nil ?_
    refine QJ_then ?_
    refine CJ_ret ?_
    refine QJ_then_ret ?_
    refine QJ_fin (.inl rfl) (μ' := []) (μr := _) (φ' := []) (res_tmp rfl rfl) (List.Perm.refl _) (fun _ h => nomatch h) ?_
    exact ⟨0, ⟨⟨fun _ => digits_len_zero.1 (by omega), fun _ => rfl⟩, by omega⟩, rfl, rfl, rfl⟩
  · try simp only [decide_eq_true_eq, decide_eq_false_iff_not, Bool.not_eq_true', Bool.not_eq_false', Bool.and_eq_true, Bool.and_eq_false_iff, beq_iff_eq, bne_iff_ne, beq_eq_false_iff_ne, bne_eq_false_iff_eq, ne_eq, decide_eq_decide] at h7
    refine CJ_skip ?_
    refine QJ_then ?_
    refine CJ_seq ?_
    refine CJ_reg ?_
    refine LJ_y rfl rfl (YJ_move rfl) ?_
    refine LJ_y rfl rfl (YJ_len rfl ulen_98 rfl) ?_
    first | refine LJ_y rfl rfl (YJ_bin rfl rfl (iop_sub (by omega))) ?_ | refine LJ_y rfl rfl (YJ_bin rfl rfl rfl) ?_
    first | refine LJ_y rfl rfl (YJ_bin rfl rfl (iop_mul (by omega))) ?_ | refine LJ_y rfl rfl (YJ_bin rfl rfl rfl) ?_
    refine LJ_y rfl rfl (YJ_move rfl) ?_
    refine LJ_y rfl rfl (YJ_move rfl) ?_
    refine LJ_y rfl rfl (YJ_len rfl ulen_98 rfl) ?_
    first | refine LJ_y rfl rfl (YJ_bin rfl rfl (iop_sub (by omega))) ?_ | refine LJ_y rfl rfl (YJ_bin rfl rfl rfl) ?_
    first | refine LJ_y rfl rfl (YJ_ixOwn rfl rfl elt_98 (by omega) (by omega)) ?_ | refine LJ_y rfl rfl (YJ_ixFact rfl rfl elt_98 (by repeat first | exact .head _ | apply List.Mem.tail) (by decide) (by omega) (by omega) (by omega)) ?_
    refine LJ_y rfl rfl (YJ_loadFact (xs := U (digits (val l))) rfl tyi_108 (.head _) (U_get' (k := (digits (val l)).length - 1) (by omega) (by omega))) ?_
    refine LJ_call0 rfl rfl rfl rfl rfl (len64_c _ (by omega) (by have := (digits_w (val l)).getD ((digits (val l)).length - 1); unfold BB at this; omega)) (AllIn.sub (by first | exact trivial | exact And.intro (by repeat first | exact .head _ | apply List.Mem.tail) trivial | exact And.intro (by repeat first | exact .head _ | apply List.Mem.tail) (And.intro (by repeat first | exact .head _ | apply List.Mem.tail) trivial))) ?_
    refine LJ_y rfl rfl (YJ_bin rfl rfl (iop_add (by have := bitLen_le ((((digits (val l)).getD ((digits (val l)).length - 1) 0 : Nat) : Int)).toNat; omega))) ?_
    refine LJ_y rfl rfl (YJ_assign rfl) ?_
    refine LJ_nil ?_
    refine QJ_then ?_
    refine CJ_ret ?_
    refine QJ_fin (.inl rfl) (μ' := []) (μr := _) (φ' := []) (res_tmp rfl rfl) (List.Perm.refl _) (fun _ h => nomatch h) ?_
    exact ⟨_, len_top _ rfl (by omega) (by omega), rfl, rfl, rfl⟩


theorem drop_step {l r : List Nat} {k : Nat} (h : k < l.length) (hr : k < r.length) (hd : l.drop (k + 1) = r.drop (k + 1)) (he : l.getD k 0 = r.getD k 0) : l.drop k = r.drop k := by
  rw [List.drop_eq_getElem_cons h, List.drop_eq_getElem_cons hr, hd]
  rw [List.getD, List.getD, List.getElem?_eq_getElem h, List.getElem?_eq_getElem hr] at he
  have he' : l[k] = r[k] := he
  rw [he']
theorem cmp_len_lt {a b : Nat} (h : (digits a).length < (digits b).length) : (a : Int) - b < 0 := by have := digits_len_lt h; omega
theorem cmp_at_lt {a b k : Nat} (hlen : (digits a).length = (digits b).length) (hk : k < (digits a).length) (he : (digits a).drop (k + 1) = (digits b).drop (k + 1)) (hlt : (digits a).getD k 0 < (digits b).getD k 0) : (a : Int) - b < 0 := by
  have := val_cmp_lt (digits_w a) hlen hk he hlt
  rw [val_digits, val_digits] at this
  omega
theorem cmp_eq {a b : Nat} (he : (digits a).drop 0 = (digits b).drop 0) : (a : Int) - b = 0 := by
  simp only [List.drop_zero] at he
  have := congrArg val he
  rw [val_digits, val_digits] at this
  omega


set_option maxRecDepth 100000 in
set_option maxHeartbeats 1000000 in
theorem mcmp_c {A A' : Option Addr} {n m c c' : Nat} {l r : List Nat} (hn : n = l.length) (hm : m = r.length) (hw : W64 l) (hw' : W64 r) (hl : l.length ≤ 1000000) (hl' : r.length ≤ 1000000) (hc : l.length ≤ c) (hc' : r.length ≤ c') : Tri Try.prog 79 [.slice A n c, .slice A' m c'] [] [lF A l, lF A' r] (Ret0 (.int .i64 (sgn ((val l : Int) - (val r : Int))))) := by
  refine Tri_of (N := 45) Try.func79 rfl ent_79 rfl rfl ?_
  intro w0 S0 T0
  show CJ _ _ _ [(0, _), (1, _)] _ _
  subst hn
  subst hm
  have hd : (digits (val l)).length ≤ 1000000 := Nat.le_trans (digits_len (val_lt hw)) hl
  have hd' : (digits (val r)).length ≤ 1000000 := Nat.le_trans (digits_len (val_lt hw')) hl'
  refine CJ_seq ?_
  refine CJ_reg ?_
  refine LJ_y rfl rfl (YJ_assign rfl) ?_
  refine LJ_nil ?_
  refine QJ_then ?_
  refine CJ_seq ?_
  refine CJ_reg ?_
  refine LJ_y rfl rfl (YJ_move rfl) ?_
  refine LJ_callF rfl rfl rfl rfl rfl (right_c rfl hw hl hc) (AllIn.sub (by first | exact trivial | exact And.intro (by repeat first | exact .head _ | apply List.Mem.tail) trivial | exact And.intro (by repeat first | exact .head _ | apply List.Mem.tail) (And.intro (by repeat first | exact .head _ | apply List.Mem.tail) trivial))) ?_
  simp only [List.cons_append, List.nil_append]
  refine LJ_y rfl rfl (YJ_move rfl) ?_
  refine LJ_callF rfl rfl rfl rfl rfl (right_c rfl hw' hl' hc') (AllIn.sub (by first | exact trivial | exact And.intro (by repeat first | exact .head _ | apply List.Mem.tail) trivial | exact And.intro (by repeat first | exact .head _ | apply List.Mem.tail) (And.intro (by repeat first | exact .head _ | apply List.Mem.tail) trivial))) ?_
  simp only [List.cons_append, List.nil_append]
  refine LJ_y rfl rfl (YJ_assign rfl) ?_
  refine LJ_y rfl rfl (YJ_assign rfl) ?_
  refine LJ_nil ?_
  refine QJ_then ?_
  refine CJ_seq ?_
  refine CJ_seq ?_
  refine CJ_reg ?_
  refine LJ_y rfl rfl (YJ_move rfl) ?_
  refine LJ_y rfl rfl (YJ_len rfl ulen_98 rfl) ?_
  refine LJ_y rfl rfl (YJ_move rfl) ?_
  refine LJ_y rfl rfl (YJ_len rfl ulen_98 rfl) ?_
  refine LJ_y rfl rfl (YJ_bin rfl rfl rfl) ?_
  refine LJ_nil ?_
  refine QJ_then ?_
  refine CJ_cond rfl (fun h14 => ?_) (fun h14 => ?_)
  · try simp only [decide_eq_true_eq, decide_eq_false_iff_not, Bool.not_eq_true', Bool.not_eq_false', Bool.and_eq_true, Bool.and_eq_false_iff, beq_iff_eq, bne_iff_ne, beq_eq_false_iff_ne, bne_eq_false_iff_eq, ne_eq, decide_eq_decide] at h14
    refine CJ_seq ?_
    refine CJ_seq ?_
    refine CJ_reg ?_
    refine LJ_y rfl rfl (YJ_move rfl) ?_
    refine LJ_y rfl rfl (YJ_len rfl ulen_98 rfl) ?_
    refine LJ_y rfl rfl (YJ_move rfl) ?_
    refine LJ_y rfl rfl (YJ_len rfl ulen_98 rfl) ?_
    refine LJ_y rfl rfl (YJ_bin rfl rfl rfl) ?_
    refine LJ_nil ?_
    refine QJ_then ?_
    refine CJ_cond rfl (fun h19 => ?_) (fun h19 => ?_)
    · try simp only [decide_eq_true_eq, decide_eq_false_iff_not, Bool.not_eq_true', Bool.not_eq_false', Bool.and_eq_true, Bool.and_eq_false_iff, beq_iff_eq, bne_iff_ne, beq_eq_false_iff_ne, bne_eq_false_iff_eq, ne_eq, decide_eq_decide] at h19
      refine CJ_seq ?_
      refine CJ_reg ?_
      refine LJ_y rfl rfl (YJ_assign rfl) ?_
      refine LJ_nil ?_
      refine QJ_then ?_
      refine CJ_ret ?_
      refine QJ_then_ret ?_
      refine QJ_then_ret ?_
      refine QJ_fin (.inl rfl) (μ' := []) (μr := _) (φ' := []) (res_tmp rfl rfl) (List.Perm.refl _) (fun _ h => nomatch h) ?_
      exact ⟨congrArg (Value.int .i64) (sgn_lt (cmp_len_lt (by omega))).symm, rfl, rfl⟩
    · try simp only [decide_eq_true_eq, decide_eq_false_iff_not, Bool.not_eq_true', Bool.not_eq_false', Bool.and_eq_true, Bool.and_eq_false_iff, beq_iff_eq, bne_iff_ne, beq_eq_false_iff_ne, bne_eq_false_iff_eq, ne_eq, decide_eq_decide] at h19
      refine CJ_skip ?_
      refine QJ_then ?_
      refine CJ_seq ?_
      refine CJ_reg ?_
      refine LJ_y rfl rfl (YJ_assign rfl) ?_
      refine LJ_nil ?_
      refine QJ_then ?_
      refine CJ_ret ?_
      refine QJ_then_ret ?_
      refine QJ_fin (.inl rfl) (μ' := []) (μr := _) (φ' := []) (res_tmp rfl rfl) (List.Perm.refl _) (fun _ h => nomatch h) ?_
      exact ⟨congrArg (Value.int .i64) (sgn_gt (by have := cmp_len_lt (a := val r) (b := val l) (by omega); omega)).symm, rfl, rfl⟩
  · try simp only [decide_eq_true_eq, decide_eq_false_iff_not, Bool.not_eq_true', Bool.not_eq_false', Bool.and_eq_true, Bool.and_eq_false_iff, beq_iff_eq, bne_iff_ne, beq_eq_false_iff_ne, bne_eq_false_iff_eq, ne_eq, decide_eq_decide] at h14
    have hlen : (digits (val l)).length = (digits (val r)).length := by omega
    refine CJ_skip ?_
    refine QJ_then ?_
    refine CJ_seq ?_
    refine CJ_seq ?_
    refine CJ_reg ?_
    refine LJ_y rfl rfl (YJ_move rfl) ?_
    refine LJ_y rfl rfl (YJ_len rfl ulen_98 rfl) ?_
    first | refine LJ_y rfl rfl (YJ_bin rfl rfl (iop_sub (by omega))) ?_ | refine LJ_y rfl rfl (YJ_bin rfl rfl rfl) ?_
    refine LJ_y rfl rfl (YJ_assign rfl) ?_
    refine LJ_nil ?_
    refine QJ_then ?_
    refine CJ_block ?_
    refine CJ_loop (F := fun (k : Nat) => ⟨[(0, .slice A (digits (val l)).length c), (1, .slice A' (digits (val r)).length c'), (5, .int .i64 ((k : Int) - 1))], [], [dF A' (val r), dF A (val l), lF A l, lF A' r]⟩) (I := fun (k : Nat) => k ≤ (digits (val l)).length ∧ (digits (val l)).drop k = (digits (val r)).drop k) (m := fun (k : Nat) => k) (digits (val l)).length (μr := []) ⟨Nat.le_refl _, by rw [List.drop_length, hlen, List.drop_length]⟩ (And.intro rfl (And.intro rfl (And.intro rfl (trivial)))) (List.Perm.refl _) (fun _ h => h) ?_
    rintro k ⟨hk, hdr⟩
    show CJ _ _ _ [(0, _), (1, _), (5, _)] [] [dF A' (val r), dF A (val l), lF A l, lF A' r]
    refine CJ_seq ?_
    refine CJ_seq ?_
    refine CJ_reg ?_
    refine LJ_y rfl rfl (YJ_move rfl) ?_
    refine LJ_y rfl rfl (YJ_bin rfl rfl rfl) ?_
    refine LJ_nil ?_
    refine QJ_then ?_
    refine CJ_cond rfl (fun h24 => ?_) (fun h24 => ?_)
    · try simp only [decide_eq_true_eq, decide_eq_false_iff_not, Bool.not_eq_true', Bool.not_eq_false', Bool.and_eq_true, Bool.and_eq_false_iff, beq_iff_eq, bne_iff_ne, beq_eq_false_iff_ne, bne_eq_false_iff_eq, ne_eq, decide_eq_decide] at h24
      refine CJ_skip ?_
      refine QJ_then ?_
      refine CJ_seq ?_
      refine CJ_block ?_
      refine CJ_seq ?_
      refine CJ_regD mix (by kernel_rfl) (fun _ _ _ _ _ h => h) _ _ (fun _ h => h) (fun _ h => h) ?_
      refine AJ_y 0 rfl (by kernel_rfl) (by kernel_rfl) rfl rfl (YJ_move rfl) ?_
      refine AJ_y 1 rfl (by kernel_rfl) (by kernel_rfl) rfl rfl (YJ_move rfl) ?_
      first | refine AJ_y 2 rfl (by kernel_rfl) (by kernel_rfl) rfl rfl (YJ_ixOwn rfl rfl elt_98 (by omega) (by omega)) ?_ | refine AJ_y 2 rfl (by kernel_rfl) (by kernel_rfl) rfl rfl (YJ_ixFact rfl rfl elt_98 (by repeat first | exact .head _ | apply List.Mem.tail) (by decide) (by omega) (by omega) (by omega)) ?_
      refine AJ_y 3 rfl (by kernel_rfl) (by kernel_rfl) rfl rfl (YJ_loadFact (xs := U (digits (val l))) rfl tyi_108 (.tail _ (.head _)) (U_get' (k := k - 1) (by omega) (by omega))) ?_
      refine AJ_y 4 rfl (by kernel_rfl) (by kernel_rfl) rfl rfl (YJ_move rfl) ?_
      refine AJ_y 5 rfl (by kernel_rfl) (by kernel_rfl) rfl rfl (YJ_move rfl) ?_
      first | refine AJ_y 6 rfl (by kernel_rfl) (by kernel_rfl) rfl rfl (YJ_ixOwn rfl rfl elt_98 (by omega) (by omega)) ?_ | refine AJ_y 6 rfl (by kernel_rfl) (by kernel_rfl) rfl rfl (YJ_ixFact rfl rfl elt_98 (by repeat first | exact .head _ | apply List.Mem.tail) (by decide) (by omega) (by omega) (by omega)) ?_
      refine AJ_y 7 rfl (by kernel_rfl) (by kernel_rfl) rfl rfl (YJ_loadFact (xs := U (digits (val r))) rfl tyi_108 (.head _) (U_get' (k := k - 1) (by omega) (by omega))) ?_
      refine AJ_y 8 rfl (by kernel_rfl) (by kernel_rfl) rfl rfl (YJ_bin rfl rfl rfl) ?_
      refine AJ_done (by kernel_rfl) ?_
      refine QJ_then ?_
      refine CJ_cond rfl (fun h35 => ?_) (fun h35 => ?_)
      · try simp only [decide_eq_true_eq, decide_eq_false_iff_not, Bool.not_eq_true', Bool.not_eq_false', Bool.and_eq_true, Bool.and_eq_false_iff, beq_iff_eq, bne_iff_ne, beq_eq_false_iff_ne, bne_eq_false_iff_eq, ne_eq, decide_eq_decide] at h35
        refine CJ_seq ?_
        refine CJ_seq ?_
        refine CJ_regD mix (by kernel_rfl) (fun _ _ _ _ _ h => h) _ _ (fun _ h => h) (fun _ h => h) ?_
        refine AJ_y 0 rfl (by kernel_rfl) (by kernel_rfl) rfl rfl (YJ_move rfl) ?_
        refine AJ_y 1 rfl (by kernel_rfl) (by kernel_rfl) rfl rfl (YJ_move rfl) ?_
        first | refine AJ_y 2 rfl (by kernel_rfl) (by kernel_rfl) rfl rfl (YJ_ixOwn rfl rfl elt_98 (by omega) (by omega)) ?_ | refine AJ_y 2 rfl (by kernel_rfl) (by kernel_rfl) rfl rfl (YJ_ixFact rfl rfl elt_98 (by repeat first | exact .head _ | apply List.Mem.tail) (by decide) (by omega) (by omega) (by omega)) ?_
        refine AJ_y 3 rfl (by kernel_rfl) (by kernel_rfl) rfl rfl (YJ_loadFact (xs := U (digits (val l))) rfl tyi_108 (.tail _ (.head _)) (U_get' (k := k - 1) (by omega) (by omega))) ?_
        refine AJ_y 4 rfl (by kernel_rfl) (by kernel_rfl) rfl rfl (YJ_move rfl) ?_
        refine AJ_y 5 rfl (by kernel_rfl) (by kernel_rfl) rfl rfl (YJ_move rfl) ?_
        first | refine AJ_y 6 rfl (by kernel_rfl) (by kernel_rfl) rfl rfl (YJ_ixOwn rfl rfl elt_98 (by omega) (by omega)) ?_ | refine AJ_y 6 rfl (by kernel_rfl) (by kernel_rfl) rfl rfl (YJ_ixFact rfl rfl elt_98 (by repeat first | exact .head _ | apply List.Mem.tail) (by decide) (by omega) (by omega) (by omega)) ?_
        refine AJ_y 7 rfl (by kernel_rfl) (by kernel_rfl) rfl rfl (YJ_loadFact (xs := U (digits (val r))) rfl tyi_108 (.head _) (U_get' (k := k - 1) (by omega) (by omega))) ?_
        refine AJ_y 8 rfl (by kernel_rfl) (by kernel_rfl) rfl rfl (YJ_bin rfl rfl rfl) ?_
        refine AJ_done (by kernel_rfl) ?_
        refine QJ_then ?_
        refine CJ_cond rfl (fun h44 => ?_) (fun h44 => ?_)
        · try simp only [decide_eq_true_eq, decide_eq_false_iff_not, Bool.not_eq_true', Bool.not_eq_false', Bool.and_eq_true, Bool.and_eq_false_iff, beq_iff_eq, bne_iff_ne, beq_eq_false_iff_ne, bne_eq_false_iff_eq, ne_eq, decide_eq_decide] at h44
          refine CJ_seq ?_
          refine CJ_reg ?_
          refine LJ_y rfl rfl (YJ_assign rfl) ?_
          refine LJ_nil ?_
          refine QJ_then ?_
          refine CJ_ret ?_
          refine QJ_then_ret ?_
          refine QJ_in_ret ?_
          refine QJ_then_ret ?_
          refine QJ_then_ret ?_
          refine QJ_in_ret ?_
          refine QJ_then_ret ?_
          refine QJ_fin (.inl rfl) (μ' := []) (μr := _) (φ' := []) (res_tmp rfl rfl) (List.Perm.refl _) (fun _ h => nomatch h) ?_
          exact ⟨congrArg (Value.int .i64) (sgn_lt (cmp_at_lt (k := k - 1) hlen (by omega) (by rw [show k - 1 + 1 = k by omega]; exact hdr) (by omega))).symm, rfl, rfl⟩
        · try simp only [decide_eq_true_eq, decide_eq_false_iff_not, Bool.not_eq_true', Bool.not_eq_false', Bool.and_eq_true, Bool.and_eq_false_iff, beq_iff_eq, bne_iff_ne, beq_eq_false_iff_ne, bne_eq_false_iff_eq, ne_eq, decide_eq_decide] at h44
          refine CJ_skip ?_
          refine QJ_then ?_
          refine CJ_seq ?_
          refine CJ_reg ?_
          refine LJ_y rfl rfl (YJ_assign rfl) ?_
          refine LJ_nil ?_
          refine QJ_then ?_
          refine CJ_ret ?_
          refine QJ_in_ret ?_
          refine QJ_then_ret ?_
          refine QJ_then_ret ?_
          refine QJ_in_ret ?_
          refine QJ_then_ret ?_
          refine QJ_fin (.inl rfl) (μ' := []) (μr := _) (φ' := []) (res_tmp rfl rfl) (List.Perm.refl _) (fun _ h => nomatch h) ?_
          exact ⟨congrArg (Value.int .i64) (sgn_gt (by have := cmp_at_lt (a := val r) (b := val l) (k := k - 1) hlen.symm (by omega) (by rw [show k - 1 + 1 = k by omega]; exact hdr.symm) (by omega); omega)).symm, rfl, rfl⟩
      · try simp only [decide_eq_true_eq, decide_eq_false_iff_not, Bool.not_eq_true', Bool.not_eq_false', Bool.and_eq_true, Bool.and_eq_false_iff, beq_iff_eq, bne_iff_ne, beq_eq_false_iff_ne, bne_eq_false_iff_eq, ne_eq, decide_eq_decide] at h35
        refine CJ_skip ?_
        refine QJ_in_normal ?_
        refine QJ_then ?_
        refine CJ_reg ?_
        refine LJ_y rfl rfl (YJ_move rfl) ?_
        first | refine LJ_y rfl rfl (YJ_bin rfl rfl (iop_sub (by omega))) ?_ | refine LJ_y rfl rfl (YJ_bin rfl rfl rfl) ?_
        refine LJ_y rfl rfl (YJ_assign rfl) ?_
        refine LJ_nil ?_
        refine QJ_round (F := fun (k : Nat) => ⟨[(0, .slice A (digits (val l)).length c), (1, .slice A' (digits (val r)).length c'), (5, .int .i64 ((k : Int) - 1))], [], [dF A' (val r), dF A (val l), lF A l, lF A' r]⟩) (I := fun (k : Nat) => k ≤ (digits (val l)).length ∧ (digits (val l)).drop k = (digits (val r)).drop k) (m := fun (k : Nat) => k) (i := k) (k - 1) (μr := []) ⟨by omega, drop_step (by omega) (by omega) (by rw [show k - 1 + 1 = k by omega]; exact hdr) (by omega)⟩ (by omega) (And.intro rfl (And.intro rfl (And.intro (congrArg some (congrArg (Value.int .i64) (by omega))) trivial))) (List.Perm.refl _) (fun _ h => h)
    · try simp only [decide_eq_true_eq, decide_eq_false_iff_not, Bool.not_eq_true', Bool.not_eq_false', Bool.and_eq_true, Bool.and_eq_false_iff, beq_iff_eq, bne_iff_ne, beq_eq_false_iff_ne, bne_eq_false_iff_eq, ne_eq, decide_eq_decide] at h24
      refine CJ_exit ?_
      refine QJ_then_exit ?_
      refine QJ_then_exit ?_
      refine QJ_in_exit ?_
      refine QJ_then ?_
      refine CJ_seq ?_
      refine CJ_reg ?_
      refine LJ_y rfl rfl (YJ_assign rfl) ?_
      refine LJ_nil ?_
      refine QJ_then ?_
      refine CJ_ret ?_
      refine QJ_fin (.inl rfl) (μ' := []) (μr := _) (φ' := []) (res_tmp rfl rfl) (List.Perm.refl _) (fun _ h => nomatch h) ?_
      exact ⟨congrArg (Value.int .i64) (sgn_eq (cmp_eq (by rw [show k = 0 by omega] at hdr; exact hdr))).symm, rfl, rfl⟩

end Go.Proofs.Ytbanlhlggkdanaa
