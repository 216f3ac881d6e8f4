/- The walk of mag.Sub. -/
import Derived.Test.YtbanlhlggkdanaaM3
set_option linter.unusedSimpArgs false
set_option linter.unusedVariables false
namespace Go.Proofs.Ytbanlhlggkdanaa
open Go.RowKit

theorem ent_80 : Enter Try.prog 80 = true := by kernel_rfl


/-- one word of a difference -/
theorem sub_word {x y b : Nat} (hx : x < BB) (hy : y < BB) (hb : b ≤ 1) : (x + BB - y - b) % BB + y + b = x + BB * (if x < y + b then 1 else 0) := by
  unfold BB at *; split <;> omega
theorem sub_step {l r w : List Nat} {i b : Nat} (hl : W64 l) (hr : W64 r) (hb : b ≤ 1) (hi : i < l.length) (hw : i < w.length) (hv : val (w.take i) + val (r.take i) = val (l.take i) + BB ^ i * b) :
    val ((w.set i ((l.getD i 0 + BB - r.getD i 0 - b) % BB)).take (i + 1)) + val (r.take (i + 1)) = val (l.take (i + 1)) + BB ^ (i + 1) * (if l.getD i 0 < r.getD i 0 + b then 1 else 0) := by
  rw [val_set_take hw, val_take_succ hi]
  have hr' : val (r.take (i + 1)) = val (r.take i) + BB ^ i * r.getD i 0 := by
    rcases Nat.lt_or_ge i r.length with h | h
    · exact val_take_succ h
    · rw [val_take_all (by omega), val_take_all h, getD_ge h]; simp
  rw [hr']
  have hs := sub_word (hl.getD i) (hr.getD i) hb
  have hp : BB ^ i * ((l.getD i 0 + BB - r.getD i 0 - b) % BB) + BB ^ i * r.getD i 0 + BB ^ i * b = BB ^ i * l.getD i 0 + BB ^ (i + 1) * (if l.getD i 0 < r.getD i 0 + b then 1 else 0) := by
    rw [Nat.pow_succ, Nat.mul_assoc, ← Nat.mul_add, ← Nat.mul_add, ← Nat.mul_add, hs]
  omega
theorem sub_last {u v : Nat} {w : List Nat} {b : Nat} (h : v < u) (hb : b ≤ 1) (hw : W64 w) (hlen : w.length = (digits u).length)
    (hv : val (w.take (digits u).length) + val ((digits v).take (digits u).length) = val ((digits u).take (digits u).length) + BB ^ (digits u).length * b) : val w = u - v := by
  have hle : (digits v).length ≤ (digits u).length := by
    rcases Nat.lt_or_ge (digits u).length (digits v).length with h' | h'
    · have := digits_len_lt h'; omega
    · exact h'
  rw [val_take_all (by omega), val_take_all hle, val_take_all (Nat.le_refl _), val_digits, val_digits] at hv
  have hlt := val_lt hw
  rw [hlen] at hlt
  have : b = 0 := by
    rcases Nat.lt_or_ge b 1 with h1 | h1
    · omega
    · have hb1 : b = 1 := by omega
      subst hb1
      simp at hv
      omega
  subst this
  simp at hv
  omega
theorem sgn_le_zero {n : Int} : sgn n ≤ 0 ↔ n ≤ 0 := by have := sgn_cases n; omega


set_option maxRecDepth 100000 in
set_option maxHeartbeats 4000000 in
theorem msub_c {A A' : Option Addr} {n m c c' : Nat} {l r : List Nat} (hn : n = l.length) (hm : m = r.length) (hw : W64 l) (hw' : W64 r) (hl : l.length ≤ 100000) (hl' : r.length ≤ 100000) (hc : l.length ≤ c) (hc' : r.length ≤ c') : Tri Try.prog 80 [.slice A n c, .slice A' m c'] [] [lF A l, lF A' r] (RetM (val l - val r)) := by
  refine Tri_of (N := 49) Try.func80 rfl ent_80 rfl rfl ?_
  intro w0 S0 T0
  show CJ _ _ _ [(0, _), (1, _)] _ _
  subst hn
  subst hm
  have hd : (digits (val l)).length ≤ l.length := digits_len (val_lt hw)
  have hd' : (digits (val r)).length ≤ r.length := digits_len (val_lt hw')
  refine CJ_seq ?_
  refine CJ_reg ?_
  refine LJ_y rfl rfl (YJ_assign rfl) ?_
  refine LJ_nil ?_
  refine QJ_then ?_
  refine CJ_seq ?_
  refine CJ_reg ?_
  refine LJ_y rfl rfl (YJ_move rfl) ?_
  refine LJ_callF rfl rfl rfl rfl rfl (right_c rfl hw (by omega) hc) (AllIn.sub (by first | exact trivial | exact And.intro (by repeat first | exact .head _ | apply List.Mem.tail) trivial | exact And.intro (by repeat first | exact .head _ | apply List.Mem.tail) (And.intro (by repeat first | exact .head _ | apply List.Mem.tail) trivial))) ?_
  simp only [List.cons_append, List.nil_append]
  refine LJ_y rfl rfl (YJ_move rfl) ?_
  refine LJ_callF rfl rfl rfl rfl rfl (right_c rfl hw' (by omega) hc') (AllIn.sub (by first | exact trivial | exact And.intro (by repeat first | exact .head _ | apply List.Mem.tail) trivial | exact And.intro (by repeat first | exact .head _ | apply List.Mem.tail) (And.intro (by repeat first | exact .head _ | apply List.Mem.tail) trivial))) ?_
  simp only [List.cons_append, List.nil_append]
  refine LJ_y rfl rfl (YJ_assign rfl) ?_
  refine LJ_y rfl rfl (YJ_assign rfl) ?_
  refine LJ_nil ?_
  refine QJ_then ?_
  refine CJ_seq ?_
  refine CJ_seq ?_
  refine CJ_reg ?_
  refine LJ_y rfl rfl (YJ_move rfl) ?_
  refine LJ_y rfl rfl (YJ_move rfl) ?_
  refine LJ_call0 rfl rfl rfl rfl rfl (mcmp_c (l := digits (val l)) (r := digits (val r)) rfl rfl (digits_w _) (digits_w _) (by omega) (by omega) (by omega) (by omega)) (AllIn.sub (And.intro (by repeat first | exact .head _ | apply List.Mem.tail) (And.intro (by repeat first | exact .head _ | apply List.Mem.tail) trivial))) ?_
  refine LJ_y rfl rfl (YJ_bin rfl rfl rfl) ?_
  rw [val_digits, val_digits]
  refine LJ_nil ?_
  refine QJ_then ?_
  refine CJ_cond rfl (fun h17 => ?_) (fun h17 => ?_)
  · try simp only [decide_eq_true_eq, decide_eq_false_iff_not, Bool.not_eq_true', Bool.not_eq_false', Bool.and_eq_true, Bool.and_eq_false_iff, beq_iff_eq, bne_iff_ne, beq_eq_false_iff_ne, bne_eq_false_iff_eq, ne_eq, decide_eq_decide] at h17
    have e0 : val l - val r = 0 := by have := sgn_le_zero.1 h17; omega
    refine CJ_seq ?_
    refine CJ_reg ?_
    refine LJ_y rfl rfl (YJ_assign rfl) ?_
    refine LJ_nil ?_
    refine QJ_then ?_
    refine CJ_ret ?_
    refine QJ_then_ret ?_
    refine QJ_newF (r' := sliceR 1 none 0 []) (sliceR_nil 1 none) ?_
    refine QJ_fin (.inl rfl) (μ' := []) (μr := _) (φ' := [sliceR 1 none 0 []]) (res_tmp rfl rfl) (List.Perm.refl _) (AllIn.sub (And.intro (.head _) trivial)) ?_
    exact ⟨(none, 0), by rw [e0, digits_zero]; simp, by rw [e0, digits_zero]; rfl, rfl, by rw [e0]; unfold dF; rw [digits_zero]; rfl⟩
  · try simp only [decide_eq_true_eq, decide_eq_false_iff_not, Bool.not_eq_true', Bool.not_eq_false', Bool.and_eq_true, Bool.and_eq_false_iff, beq_iff_eq, bne_iff_ne, beq_eq_false_iff_ne, bne_eq_false_iff_eq, ne_eq, decide_eq_decide] at h17
    have h17 : val r < val l := by have h := mt sgn_le_zero.2 h17; omega
    refine CJ_skip ?_
    refine QJ_then ?_
    refine CJ_seq ?_
    refine CJ_reg ?_
    refine LJ_y rfl rfl (YJ_move rfl) ?_
    refine LJ_y rfl rfl (YJ_len rfl ulen_98 rfl) ?_
    refine LJ_make rfl rfl elt_98 zer_108 rfl rfl (n := (digits (val l)).length) (by omega) (by omega) (by omega) ?_
    intro b1
    refine LJ_y rfl rfl (YJ_assign rfl) ?_
    refine LJ_nil ?_
    refine QJ_then ?_
    refine CJ_seq ?_
    refine CJ_reg ?_
    refine LJ_y rfl rfl (YJ_assign rfl) ?_
    refine LJ_nil ?_
    refine QJ_then ?_
    refine CJ_seq ?_
    refine CJ_seq ?_
    refine CJ_reg ?_
    refine LJ_y rfl rfl (YJ_move rfl) ?_
    refine LJ_y rfl rfl (YJ_len rfl ulen_98 rfl) ?_
    refine LJ_y rfl rfl (YJ_move rfl) ?_
    refine LJ_nil ?_
    refine QJ_then ?_
    refine CJ_block ?_
    rw [made_U]
    refine CJ_loop (F := fun (x : Nat × List Nat × Nat) => ⟨[(0, .slice A (digits (val l)).length c), (1, .slice A' (digits (val r)).length c'), (5, .slice (some ⟨b1, 0, none⟩) (digits (val l)).length (digits (val l)).length), (6, .int .u64 (x.2.2 : Int)), (21, .slice A (digits (val l)).length c), (22, .int .i64 ((digits (val l)).length : Int)), (23, .int .i64 (x.1 : Int))], [cellsR b1 (U x.2.1).toArray 108], [dF A' (val r), dF A (val l), lF A l, lF A' r]⟩) (I := fun (x : Nat × List Nat × Nat) => x.1 ≤ (digits (val l)).length ∧ x.2.1.length = (digits (val l)).length ∧ W64 x.2.1 ∧ x.2.2 ≤ 1 ∧ val (x.2.1.take x.1) + val ((digits (val r)).take x.1) = val ((digits (val l)).take x.1) + BB ^ x.1 * x.2.2) (m := fun (x : Nat × List Nat × Nat) => (digits (val l)).length - x.1) (0, List.replicate (digits (val l)).length 0, 0) (μr := []) ⟨Nat.zero_le _, by simp, W64.zeros _, Nat.zero_le _, by simp [val]⟩ (And.intro rfl (And.intro rfl (And.intro rfl (And.intro rfl (And.intro rfl (And.intro rfl (And.intro rfl (trivial)))))))) (List.Perm.refl _) (fun _ h => h) ?_
    rintro ⟨i, w, cy⟩ ⟨hi, hwl, hww, hcy, hv⟩
    try dsimp only at hi
    try dsimp only at hwl
    try dsimp only at hww
    try dsimp only at hcy
    try dsimp only at hv
    show CJ _ _ _ [(0, .slice A (digits (val l)).length c), (1, .slice A' (digits (val r)).length c'), (5, .slice (some ⟨b1, 0, none⟩) (digits (val l)).length (digits (val l)).length), (6, .int .u64 (cy : Int)), (21, .slice A (digits (val l)).length c), (22, .int .i64 ((digits (val l)).length : Int)), (23, .int .i64 (i : Int))] [cellsR b1 (U w).toArray 108] [dF A' (val r), dF A (val l), lF A l, lF A' r]
    have hx := (digits_w (val l)).getD i
    have hy := (digits_w (val r)).getD i
    have hx' := hx
    have hy' := hy
    unfold BB at hx hy
    have cc : (cy : Int) ≤ 1 := by omega
    refine CJ_seq ?_
    refine CJ_reg ?_
    refine LJ_y rfl rfl (YJ_bin rfl rfl rfl) ?_
    refine LJ_nil ?_
    refine QJ_then ?_
    refine CJ_seq ?_
    refine CJ_cond rfl (fun h24 => ?_) (fun h24 => ?_)
    · try simp only [decide_eq_true_eq, decide_eq_false_iff_not, Bool.not_eq_true', Bool.not_eq_false', Bool.and_eq_true, Bool.and_eq_false_iff, beq_iff_eq, bne_iff_ne, beq_eq_false_iff_ne, bne_eq_false_iff_eq, ne_eq, decide_eq_decide] at h24
      refine CJ_skip ?_
      refine QJ_then ?_
      refine CJ_seq ?_
      refine CJ_block ?_
      refine CJ_seq ?_
      refine CJ_reg ?_
      refine LJ_y rfl rfl (YJ_move rfl) ?_
      first | refine LJ_y rfl rfl (YJ_ixOwn rfl rfl elt_98 (by omega) (by omega)) ?_ | refine LJ_y rfl rfl (YJ_ixFact rfl rfl elt_98 (by repeat first | exact .head _ | apply List.Mem.tail) (by decide) (by omega) (by omega) (by omega)) ?_
      refine LJ_y rfl rfl (YJ_loadFact (xs := U (digits (val l))) rfl tyi_108 (by repeat first | exact .head _ | apply List.Mem.tail) (U_get' (k := i) (by omega) (by omega))) ?_
      refine LJ_y rfl rfl (YJ_assign rfl) ?_
      refine LJ_y rfl rfl (YJ_assign rfl) ?_
      refine LJ_nil ?_
      refine QJ_then ?_
      refine CJ_seq ?_
      refine CJ_reg ?_
      refine LJ_y rfl rfl (YJ_assign rfl) ?_
      refine LJ_nil ?_
      refine QJ_then ?_
      refine CJ_seq ?_
      refine CJ_seq ?_
      refine CJ_reg ?_
      refine LJ_y rfl rfl (YJ_move rfl) ?_
      refine LJ_y rfl rfl (YJ_move rfl) ?_
      refine LJ_y rfl rfl (YJ_len rfl ulen_98 rfl) ?_
      refine LJ_y rfl rfl (YJ_bin rfl rfl rfl) ?_
      refine LJ_nil ?_
      refine QJ_then ?_
      refine CJ_cond rfl (fun h31 => ?_) (fun h31 => ?_)
      · try simp only [decide_eq_true_eq, decide_eq_false_iff_not, Bool.not_eq_true', Bool.not_eq_false', Bool.and_eq_true, Bool.and_eq_false_iff, beq_iff_eq, bne_iff_ne, beq_eq_false_iff_ne, bne_eq_false_iff_eq, ne_eq, decide_eq_decide] at h31
        refine CJ_reg ?_
        refine LJ_y rfl rfl (YJ_move rfl) ?_
        refine LJ_y rfl rfl (YJ_move rfl) ?_
        first | refine LJ_y rfl rfl (YJ_ixOwn rfl rfl elt_98 (by omega) (by omega)) ?_ | refine LJ_y rfl rfl (YJ_ixFact rfl rfl elt_98 (by repeat first | exact .head _ | apply List.Mem.tail) (by decide) (by omega) (by omega) (by omega)) ?_
        refine LJ_y rfl rfl (YJ_loadFact (xs := U (digits (val r))) rfl tyi_108 (by repeat first | exact .head _ | apply List.Mem.tail) (U_get' (k := i) (by omega) (by omega))) ?_
        refine LJ_y rfl rfl (YJ_assign rfl) ?_
        refine LJ_nil ?_
        refine QJ_then ?_
        refine CJ_reg ?_
        refine LJ_y rfl rfl (YJ_move rfl) ?_
        refine LJ_y rfl rfl (YJ_move rfl) ?_
        refine LJ_y rfl rfl (YJ_move rfl) ?_
        refine LJ_y rfl rfl (YJ_move rfl) ?_
        refine LJ_y rfl rfl (YJ_move rfl) ?_
        refine LJ_y rfl rfl (YJ_ext rfl rfl (fun w => sub64_run' _ _ _ (by omega) (by omega) (by omega) (by omega) (by omega) (by omega) w)) ?_
        refine LJ_y rfl rfl (YJ_move rfl) ?_
        refine LJ_y rfl rfl (YJ_extract rfl rfl) ?_
        refine LJ_val (v := .int .u64 ((((digits (val l)).getD i 0 + BB - (digits (val r)).getD i 0 - cy) % BB : Nat) : Int)) (congrArg (Value.int .u64) (by unfold BB; omega)) ?_
        refine LJ_y rfl rfl (YJ_extract rfl rfl) ?_
        refine LJ_val (v := .int .u64 (((if (digits (val l)).getD i 0 < (digits (val r)).getD i 0 + cy then 1 else 0) : Nat) : Int)) (congrArg (Value.int .u64) (by split <;> omega)) ?_
        first | refine LJ_y rfl rfl (YJ_ixOwn rfl rfl elt_98 (by omega) (by omega)) ?_ | refine LJ_y rfl rfl (YJ_ixFact rfl rfl elt_98 (by repeat first | exact .head _ | apply List.Mem.tail) (by decide) (by omega) (by omega) (by omega)) ?_
        refine LJ_store (cs' := (U (w.set i (((digits (val l)).getD i 0 + BB - (digits (val r)).getD i 0 - cy) % BB))).toArray) (μ' := [_]) 0 rfl rfl rfl rfl tyi_108 rfl (by simp [U]; omega) rfl (U_set (by omega) rfl) rfl ?_
        refine LJ_y rfl rfl (YJ_assign rfl) ?_
        refine LJ_nil ?_
        refine QJ_in_normal ?_
        refine QJ_then ?_
        refine CJ_reg ?_
        first | refine LJ_y rfl rfl (YJ_bin rfl rfl (iop_add (by omega))) ?_ | refine LJ_y rfl rfl (YJ_bin rfl rfl rfl) ?_
        refine LJ_y rfl rfl (YJ_move rfl) ?_
        refine LJ_nil ?_
        refine QJ_round (F := fun (x : Nat × List Nat × Nat) => ⟨[(0, .slice A (digits (val l)).length c), (1, .slice A' (digits (val r)).length c'), (5, .slice (some ⟨b1, 0, none⟩) (digits (val l)).length (digits (val l)).length), (6, .int .u64 (x.2.2 : Int)), (21, .slice A (digits (val l)).length c), (22, .int .i64 ((digits (val l)).length : Int)), (23, .int .i64 (x.1 : Int))], [cellsR b1 (U x.2.1).toArray 108], [dF A' (val r), dF A (val l), lF A l, lF A' r]⟩) (I := fun (x : Nat × List Nat × Nat) => x.1 ≤ (digits (val l)).length ∧ x.2.1.length = (digits (val l)).length ∧ W64 x.2.1 ∧ x.2.2 ≤ 1 ∧ val (x.2.1.take x.1) + val ((digits (val r)).take x.1) = val ((digits (val l)).take x.1) + BB ^ x.1 * x.2.2) (m := fun (x : Nat × List Nat × Nat) => (digits (val l)).length - x.1) (i := (i, w, cy)) ((i + 1, w.set i (((digits (val l)).getD i 0 + BB - (digits (val r)).getD i 0 - cy) % BB), (if (digits (val l)).getD i 0 < (digits (val r)).getD i 0 + cy then 1 else 0))) (μr := []) ⟨by omega, by simpa using hwl, hww.set _ (Nat.mod_lt _ BB_pos), by dsimp only; split <;> omega, sub_step (digits_w _) (digits_w _) hcy (by omega) (by omega) hv⟩ (by omega) (And.intro rfl (And.intro rfl (And.intro rfl (And.intro rfl (And.intro rfl (And.intro rfl (And.intro rfl (trivial)))))))) (List.Perm.refl _) (fun _ h => h)
      · try simp only [decide_eq_true_eq, decide_eq_false_iff_not, Bool.not_eq_true', Bool.not_eq_false', Bool.and_eq_true, Bool.and_eq_false_iff, beq_iff_eq, bne_iff_ne, beq_eq_false_iff_ne, bne_eq_false_iff_eq, ne_eq, decide_eq_decide] at h31
        have hy0 : (digits (val r)).getD i 0 = 0 := getD_ge (by omega)
        refine CJ_skip ?_
        refine QJ_then ?_
        refine CJ_reg ?_
        refine LJ_y rfl rfl (YJ_move rfl) ?_
        refine LJ_y rfl rfl (YJ_move rfl) ?_
        refine LJ_y rfl rfl (YJ_move rfl) ?_
        refine LJ_y rfl rfl (YJ_move rfl) ?_
        refine LJ_y rfl rfl (YJ_move rfl) ?_
        refine LJ_y rfl rfl (YJ_ext rfl rfl (fun w => sub64_run' _ _ _ (by omega) (by omega) (by omega) (by omega) (by omega) (by omega) w)) ?_
        refine LJ_y rfl rfl (YJ_move rfl) ?_
        refine LJ_y rfl rfl (YJ_extract rfl rfl) ?_
        refine LJ_val (v := .int .u64 ((((digits (val l)).getD i 0 + BB - (digits (val r)).getD i 0 - cy) % BB : Nat) : Int)) (congrArg (Value.int .u64) (by unfold BB; omega)) ?_
        refine LJ_y rfl rfl (YJ_extract rfl rfl) ?_
        refine LJ_val (v := .int .u64 (((if (digits (val l)).getD i 0 < (digits (val r)).getD i 0 + cy then 1 else 0) : Nat) : Int)) (congrArg (Value.int .u64) (by split <;> omega)) ?_
        first | refine LJ_y rfl rfl (YJ_ixOwn rfl rfl elt_98 (by omega) (by omega)) ?_ | refine LJ_y rfl rfl (YJ_ixFact rfl rfl elt_98 (by repeat first | exact .head _ | apply List.Mem.tail) (by decide) (by omega) (by omega) (by omega)) ?_
        refine LJ_store (cs' := (U (w.set i (((digits (val l)).getD i 0 + BB - (digits (val r)).getD i 0 - cy) % BB))).toArray) (μ' := [_]) 0 rfl rfl rfl rfl tyi_108 rfl (by simp [U]; omega) rfl (U_set (by omega) rfl) rfl ?_
        refine LJ_y rfl rfl (YJ_assign rfl) ?_
        refine LJ_nil ?_
        refine QJ_in_normal ?_
        refine QJ_then ?_
        refine CJ_reg ?_
        first | refine LJ_y rfl rfl (YJ_bin rfl rfl (iop_add (by omega))) ?_ | refine LJ_y rfl rfl (YJ_bin rfl rfl rfl) ?_
        refine LJ_y rfl rfl (YJ_move rfl) ?_
        refine LJ_nil ?_
        refine QJ_round (F := fun (x : Nat × List Nat × Nat) => ⟨[(0, .slice A (digits (val l)).length c), (1, .slice A' (digits (val r)).length c'), (5, .slice (some ⟨b1, 0, none⟩) (digits (val l)).length (digits (val l)).length), (6, .int .u64 (x.2.2 : Int)), (21, .slice A (digits (val l)).length c), (22, .int .i64 ((digits (val l)).length : Int)), (23, .int .i64 (x.1 : Int))], [cellsR b1 (U x.2.1).toArray 108], [dF A' (val r), dF A (val l), lF A l, lF A' r]⟩) (I := fun (x : Nat × List Nat × Nat) => x.1 ≤ (digits (val l)).length ∧ x.2.1.length = (digits (val l)).length ∧ W64 x.2.1 ∧ x.2.2 ≤ 1 ∧ val (x.2.1.take x.1) + val ((digits (val r)).take x.1) = val ((digits (val l)).take x.1) + BB ^ x.1 * x.2.2) (m := fun (x : Nat × List Nat × Nat) => (digits (val l)).length - x.1) (i := (i, w, cy)) ((i + 1, w.set i (((digits (val l)).getD i 0 + BB - (digits (val r)).getD i 0 - cy) % BB), (if (digits (val l)).getD i 0 < (digits (val r)).getD i 0 + cy then 1 else 0))) (μr := []) ⟨by omega, by simpa using hwl, hww.set _ (Nat.mod_lt _ BB_pos), by dsimp only; split <;> omega, sub_step (digits_w _) (digits_w _) hcy (by omega) (by omega) hv⟩ (by omega) (And.intro rfl (And.intro rfl (And.intro rfl (And.intro rfl (And.intro rfl (And.intro rfl (And.intro rfl (trivial)))))))) (List.Perm.refl _) (fun _ h => h)
    · try simp only [decide_eq_true_eq, decide_eq_false_iff_not, Bool.not_eq_true', Bool.not_eq_false', Bool.and_eq_true, Bool.and_eq_false_iff, beq_iff_eq, bne_iff_ne, beq_eq_false_iff_ne, bne_eq_false_iff_eq, ne_eq, decide_eq_decide] at h24
      obtain rfl : i = (digits (val l)).length := by omega
      refine CJ_exit ?_
      refine QJ_then_exit ?_
      refine QJ_then_exit ?_
      refine QJ_in_exit ?_
      refine QJ_then ?_
      refine CJ_seq ?_
      refine CJ_reg ?_
      refine LJ_freeze ?_
      refine LJ_addF (r' := lF (some ⟨b1, 0, none⟩) w) (.head _) (fun w' S h => by have := cellsR_slice (n := w.length) (size := 1) (by simp [U]) w' S h; simpa [lF, U] using this) ?_
      refine LJ_y rfl rfl (YJ_move rfl) ?_
      refine LJ_callF rfl rfl rfl rfl rfl (right_c (l := w) hwl.symm hww (by omega) (by omega)) (AllIn.sub (by first | exact trivial | exact And.intro (by repeat first | exact .head _ | apply List.Mem.tail) trivial | exact And.intro (by repeat first | exact .head _ | apply List.Mem.tail) (And.intro (by repeat first | exact .head _ | apply List.Mem.tail) trivial))) ?_
      have hcap : (digits (val w)).length ≤ (digits (val l)).length := by have := digits_len (val_lt hww); omega
      rw [sub_last h17 hcy hww hwl hv] at hcap ⊢
      simp only [List.cons_append, List.nil_append]
      refine LJ_y rfl rfl (YJ_assign rfl) ?_
      refine LJ_nil ?_
      refine QJ_then ?_
      refine CJ_ret ?_
      refine QJ_fin (.inl rfl) (μ' := []) (μr := _) (φ' := [dF (some ⟨b1, 0, none⟩) (val l - val r)]) (res_tmp rfl rfl) (List.Perm.refl _) (AllIn.sub (And.intro (.head _) trivial)) ?_
      exact ⟨(_, _), hcap, rfl, rfl, rfl⟩

end Go.Proofs.Ytbanlhlggkdanaa
