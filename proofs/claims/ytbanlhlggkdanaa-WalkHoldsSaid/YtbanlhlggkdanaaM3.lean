/- The walks of the functions of mag: Add, Sub. -/
import Derived.Test.YtbanlhlggkdanaaM2
set_option linter.unusedSimpArgs false
set_option linter.unusedVariables false
namespace Go.Proofs.Ytbanlhlggkdanaa
open Go.RowKit

theorem ent_78 : Enter Try.prog 78 = true := by kernel_rfl


theorem U_set {w : List Nat} {off i y : Nat} {x : Int} (h : off = i) (hx : x = (y : Int)) : wr (U w).toArray off (Value.int .u64 x).cells.toList = (U (w.set i y)).toArray := by
  subst h; subst hx
  show (U w).toArray.setIfInBounds off (.int .u64 (y : Int)) = _
  simp [U, List.map_set]
theorem made_U (n : Nat) : madeCells (Value.int .u64 0).cells (n * 1) = (U (List.replicate n 0)).toArray := by
  apply Array.ext
  · simp [madeCells, U]
  · intro j h1 h2
    simp [madeCells, U, Value.cells, Nat.mod_one]
theorem getD_ge {l : List Nat} {k : Nat} (h : l.length ≤ k) : l.getD k 0 = 0 := by rw [List.getD, List.getElem?_eq_none h]; rfl
theorem take_set_ge {w : List Nat} {i k x : Nat} (h : k ≤ i) : (w.set i x).take k = w.take k := by
  rw [List.take_set]; exact List.set_eq_of_length_le (by simp; omega)
theorem W64.set {w : List Nat} (h : W64 w) (i : Nat) {x : Nat} (hx : x < BB) : W64 (w.set i x) := fun y hy => by
  rcases List.mem_or_eq_of_mem_set hy with h1 | h1
  · exact h y h1
  · subst h1; exact hx
theorem W64.zeros (n : Nat) : W64 (List.replicate n 0) := fun x hx => by rw [List.eq_of_mem_replicate hx]; exact BB_pos
theorem val_set_take {w : List Nat} {i x : Nat} (h : i < w.length) : val ((w.set i x).take (i + 1)) = val (w.take i) + BB ^ i * x := by
  rw [val_take_succ (by simpa using h), take_set_ge (Nat.le_refl _)]
  simp [List.getD, List.getElem?_set_self h]
/-- one word of a sum -/
theorem add_step {l r w : List Nat} {i c : Nat} (hi : i < l.length) (hw : i < w.length) (hv : val (w.take i) + BB ^ i * c = val (l.take i) + val (r.take i)) :
    val ((w.set i ((l.getD i 0 + r.getD i 0 + c) % BB)).take (i + 1)) + BB ^ (i + 1) * ((l.getD i 0 + r.getD i 0 + c) / BB) = val (l.take (i + 1)) + val (r.take (i + 1)) := by
  rw [val_set_take hw, val_take_succ hi]
  have hr : val (r.take (i + 1)) = val (r.take i) + BB ^ i * r.getD i 0 := by
    rcases Nat.lt_or_ge i r.length with h | h
    · exact val_take_succ h
    · rw [val_take_all (by omega), val_take_all h, getD_ge h]; simp
  rw [hr]
  have hm := Nat.mod_add_div (l.getD i 0 + r.getD i 0 + c) BB
  have hp : BB ^ i * ((l.getD i 0 + r.getD i 0 + c) % BB) + BB ^ (i + 1) * ((l.getD i 0 + r.getD i 0 + c) / BB) = BB ^ i * (l.getD i 0 + r.getD i 0 + c) := by
    rw [Nat.pow_succ, Nat.mul_assoc, ← Nat.mul_add, hm]
  rw [Nat.mul_add, Nat.mul_add] at hp
  omega
theorem add_last {l r w : List Nat} {c : Nat} (hlen : w.length = l.length + 1) (hr : r.length ≤ l.length) (hv : val (w.take l.length) + BB ^ l.length * c = val (l.take l.length) + val (r.take l.length)) :
    val (w.set l.length c) = val l + val r := by
  have h := val_set_take (w := w) (i := l.length) (x := c) (by omega)
  rw [val_take_all (by simp; omega)] at h
  rw [h, hv, val_take_all (Nat.le_refl _), val_take_all hr]
theorem carry_le {x y c : Nat} (hx : x < BB) (hy : y < BB) (hc : c ≤ 1) : (x + y + c) / BB ≤ 1 := by unfold BB at *; omega


set_option maxRecDepth 100000 in
set_option maxHeartbeats 4000000 in
theorem madd_c {A A' : Option Addr} {n m c c' : Nat} {l r : List Nat} (hn : n = l.length) (hm : m = r.length) (hw : W64 l) (hw' : W64 r) (hl : l.length ≤ 100000) (hl' : r.length ≤ 100000) (hc : l.length ≤ c) (hc' : r.length ≤ c') : Tri Try.prog 78 [.slice A n c, .slice A' m c'] [] [lF A l, lF A' r] (RetM (val l + val r)) := by
  refine Tri_of (N := 54) Try.func78 rfl ent_78 rfl rfl ?_
  intro w0 S0 T0
  show CJ _ _ _ [(0, _), (1, _)] _ _
  subst hn
  subst hm
  refine CJ_seq ?_
  refine CJ_reg ?_
  refine LJ_y rfl rfl (YJ_assign rfl) ?_
  refine LJ_nil ?_
  refine QJ_then ?_
  refine CJ_seq ?_
  refine CJ_seq ?_
  refine CJ_reg ?_
  refine LJ_y rfl rfl (YJ_move rfl) ?_
  refine LJ_y rfl rfl (YJ_len rfl ulen_98 rfl) ?_
  refine LJ_y rfl rfl (YJ_move rfl) ?_
  refine LJ_y rfl rfl (YJ_len rfl ulen_98 rfl) ?_
  refine LJ_y rfl rfl (YJ_bin rfl rfl rfl) ?_
  refine LJ_nil ?_
  refine QJ_then ?_
  refine CJ_cond rfl (fun h14 => ?_) (fun h14 => ?_)
  · try simp only [decide_eq_true_eq, decide_eq_false_iff_not, Bool.not_eq_true', Bool.not_eq_false', Bool.and_eq_true, Bool.and_eq_false_iff, beq_iff_eq, bne_iff_ne, beq_eq_false_iff_ne, bne_eq_false_iff_eq, ne_eq, decide_eq_decide] at h14
    refine CJ_reg ?_
    refine LJ_y rfl rfl (YJ_move rfl) ?_
    refine LJ_y rfl rfl (YJ_move rfl) ?_
    refine LJ_y rfl rfl (YJ_assign rfl) ?_
    refine LJ_y rfl rfl (YJ_assign rfl) ?_
    refine LJ_nil ?_
    refine QJ_then ?_
    refine CJ_seq ?_
    refine CJ_reg ?_
    refine LJ_y rfl rfl (YJ_move rfl) ?_
    refine LJ_y rfl rfl (YJ_len rfl ulen_98 rfl) ?_
    first | refine LJ_y rfl rfl (YJ_bin rfl rfl (iop_add (by omega))) ?_ | refine LJ_y rfl rfl (YJ_bin rfl rfl rfl) ?_
    refine LJ_make rfl rfl elt_98 zer_108 rfl rfl (n := r.length + 1) (by omega) (by omega) (by omega) ?_
    intro b1
    refine LJ_y rfl rfl (YJ_assign rfl) ?_
    refine LJ_nil ?_
    refine QJ_then ?_
    refine CJ_seq ?_
    refine CJ_reg ?_
    refine LJ_y rfl rfl (YJ_assign rfl) ?_
    refine LJ_nil ?_
    refine QJ_then ?_
    refine CJ_seq ?_
    refine CJ_seq ?_
    refine CJ_reg ?_
    refine LJ_y rfl rfl (YJ_move rfl) ?_
    refine LJ_y rfl rfl (YJ_len rfl ulen_98 rfl) ?_
    refine LJ_y rfl rfl (YJ_move rfl) ?_
    refine LJ_nil ?_
    refine QJ_then ?_
    refine CJ_block ?_
    rw [made_U]
    refine CJ_loop (F := fun (x : Nat × List Nat × Nat) => ⟨[(0, .slice A' r.length c'), (1, .slice A l.length c), (5, .slice (some ⟨b1, 0, none⟩) (r.length + 1) (r.length + 1)), (6, .int .u64 (x.2.2 : Int)), (21, .slice A' r.length c'), (22, .int .i64 (r.length : Int)), (23, .int .i64 (x.1 : Int))], [cellsR b1 (U x.2.1).toArray 108], [lF A l, lF A' r]⟩) (I := fun (x : Nat × List Nat × Nat) => x.1 ≤ r.length ∧ x.2.1.length = r.length + 1 ∧ W64 x.2.1 ∧ x.2.2 ≤ 1 ∧ val (x.2.1.take x.1) + BB ^ x.1 * x.2.2 = val (r.take x.1) + val (l.take x.1)) (m := fun (x : Nat × List Nat × Nat) => r.length - x.1) (0, List.replicate (r.length + 1) 0, 0) (μr := []) ⟨Nat.zero_le _, by simp, W64.zeros _, Nat.zero_le _, by simp [val]⟩ (And.intro rfl (And.intro rfl (And.intro rfl (And.intro rfl (And.intro rfl (And.intro rfl (And.intro rfl trivial))))))) (List.Perm.refl _) (fun _ h => h) ?_
    rintro ⟨i, w, cy⟩ ⟨hi, hwl, hww, hcy, hv⟩
    try dsimp only at hi
    try dsimp only at hwl
    try dsimp only at hww
    try dsimp only at hcy
    try dsimp only at hv
    show CJ _ _ _ [(0, .slice A' r.length c'), (1, .slice A l.length c), (5, .slice (some ⟨b1, 0, none⟩) (r.length + 1) (r.length + 1)), (6, .int .u64 (cy : Int)), (21, .slice A' r.length c'), (22, .int .i64 (r.length : Int)), (23, .int .i64 (i : Int))] [cellsR b1 (U w).toArray 108] [lF A l, lF A' r]
    have hx := (hw' : W64 r).getD i
    have hy := (hw : W64 l).getD i
    have hcl := carry_le hx hy hcy
    unfold BB at hx hy
    have cc : (cy : Int) ≤ 1 := by omega
    refine CJ_seq ?_
    refine CJ_reg ?_
    refine LJ_y rfl rfl (YJ_bin rfl rfl rfl) ?_
    refine LJ_nil ?_
    refine QJ_then ?_
    refine CJ_seq ?_
    refine CJ_cond rfl (fun h24 => ?_) (fun h24 => ?_)
    · try simp only [decide_eq_true_eq, decide_eq_false_iff_not, Bool.not_eq_true', Bool.not_eq_false', Bool.and_eq_true, Bool.and_eq_false_iff, beq_iff_eq, bne_iff_ne, beq_eq_false_iff_ne, bne_eq_false_iff_eq, ne_eq, decide_eq_decide] at h24
      refine CJ_skip ?_
      refine QJ_then ?_
      refine CJ_seq ?_
      refine CJ_block ?_
      refine CJ_seq ?_
      refine CJ_reg ?_
      refine LJ_y rfl rfl (YJ_move rfl) ?_
      first | refine LJ_y rfl rfl (YJ_ixOwn rfl rfl elt_98 (by omega) (by omega)) ?_ | refine LJ_y rfl rfl (YJ_ixFact rfl rfl elt_98 (by repeat first | exact .head _ | apply List.Mem.tail) (by decide) (by omega) (by omega) (by omega)) ?_
      refine LJ_y rfl rfl (YJ_loadFact (xs := U r) rfl tyi_108 (by repeat first | exact .head _ | apply List.Mem.tail) (U_get' (k := i) (by omega) (by omega))) ?_
      refine LJ_y rfl rfl (YJ_assign rfl) ?_
      refine LJ_y rfl rfl (YJ_assign rfl) ?_
      refine LJ_nil ?_
      refine QJ_then ?_
      refine CJ_seq ?_
      refine CJ_reg ?_
      refine LJ_y rfl rfl (YJ_assign rfl) ?_
      refine LJ_nil ?_
      refine QJ_then ?_
      refine CJ_seq ?_
      refine CJ_seq ?_
      refine CJ_reg ?_
      refine LJ_y rfl rfl (YJ_move rfl) ?_
      refine LJ_y rfl rfl (YJ_move rfl) ?_
      refine LJ_y rfl rfl (YJ_len rfl ulen_98 rfl) ?_
      refine LJ_y rfl rfl (YJ_bin rfl rfl rfl) ?_
      refine LJ_nil ?_
      refine QJ_then ?_
      refine CJ_cond rfl (fun h31 => ?_) (fun h31 => ?_)
      · try simp only [decide_eq_true_eq, decide_eq_false_iff_not, Bool.not_eq_true', Bool.not_eq_false', Bool.and_eq_true, Bool.and_eq_false_iff, beq_iff_eq, bne_iff_ne, beq_eq_false_iff_ne, bne_eq_false_iff_eq, ne_eq, decide_eq_decide] at h31
        refine CJ_reg ?_
        refine LJ_y rfl rfl (YJ_move rfl) ?_
        refine LJ_y rfl rfl (YJ_move rfl) ?_
        first | refine LJ_y rfl rfl (YJ_ixOwn rfl rfl elt_98 (by omega) (by omega)) ?_ | refine LJ_y rfl rfl (YJ_ixFact rfl rfl elt_98 (by repeat first | exact .head _ | apply List.Mem.tail) (by decide) (by omega) (by omega) (by omega)) ?_
        refine LJ_y rfl rfl (YJ_loadFact (xs := U l) rfl tyi_108 (by repeat first | exact .head _ | apply List.Mem.tail) (U_get' (k := i) (by omega) (by omega))) ?_
        refine LJ_y rfl rfl (YJ_assign rfl) ?_
        refine LJ_nil ?_
        refine QJ_then ?_
        refine CJ_reg ?_
        refine LJ_y rfl rfl (YJ_move rfl) ?_
        refine LJ_y rfl rfl (YJ_move rfl) ?_
        refine LJ_y rfl rfl (YJ_move rfl) ?_
        refine LJ_y rfl rfl (YJ_move rfl) ?_
        refine LJ_y rfl rfl (YJ_move rfl) ?_
        refine LJ_y rfl rfl (YJ_ext rfl rfl (fun w => add64_run _ _ _ (by omega) (by omega) (by omega) (by omega) w)) ?_
        refine LJ_y rfl rfl (YJ_move rfl) ?_
        refine LJ_y rfl rfl (YJ_extract rfl rfl) ?_
        refine LJ_val (v := .int .u64 (((r.getD i 0 + l.getD i 0 + cy) % BB : Nat) : Int)) (congrArg (Value.int .u64) (by unfold BB; omega)) ?_
        refine LJ_y rfl rfl (YJ_extract rfl rfl) ?_
        refine LJ_val (v := .int .u64 (((r.getD i 0 + l.getD i 0 + cy) / BB : Nat) : Int)) (congrArg (Value.int .u64) (by unfold BB; omega)) ?_
        first | refine LJ_y rfl rfl (YJ_ixOwn rfl rfl elt_98 (by omega) (by omega)) ?_ | refine LJ_y rfl rfl (YJ_ixFact rfl rfl elt_98 (by repeat first | exact .head _ | apply List.Mem.tail) (by decide) (by omega) (by omega) (by omega)) ?_
        refine LJ_store (cs' := (U (w.set i ((r.getD i 0 + l.getD i 0 + cy) % BB))).toArray) (μ' := [_]) 0 rfl rfl rfl rfl tyi_108 rfl (by simp [U]; omega) rfl (U_set (by omega) rfl) rfl ?_
        refine LJ_y rfl rfl (YJ_assign rfl) ?_
        refine LJ_nil ?_
        refine QJ_in_normal ?_
        refine QJ_then ?_
        refine CJ_reg ?_
        first | refine LJ_y rfl rfl (YJ_bin rfl rfl (iop_add (by omega))) ?_ | refine LJ_y rfl rfl (YJ_bin rfl rfl rfl) ?_
        refine LJ_y rfl rfl (YJ_move rfl) ?_
        refine LJ_nil ?_
        refine QJ_round (F := fun (x : Nat × List Nat × Nat) => ⟨[(0, .slice A' r.length c'), (1, .slice A l.length c), (5, .slice (some ⟨b1, 0, none⟩) (r.length + 1) (r.length + 1)), (6, .int .u64 (x.2.2 : Int)), (21, .slice A' r.length c'), (22, .int .i64 (r.length : Int)), (23, .int .i64 (x.1 : Int))], [cellsR b1 (U x.2.1).toArray 108], [lF A l, lF A' r]⟩) (I := fun (x : Nat × List Nat × Nat) => x.1 ≤ r.length ∧ x.2.1.length = r.length + 1 ∧ W64 x.2.1 ∧ x.2.2 ≤ 1 ∧ val (x.2.1.take x.1) + BB ^ x.1 * x.2.2 = val (r.take x.1) + val (l.take x.1)) (m := fun (x : Nat × List Nat × Nat) => r.length - x.1) (i := (i, w, cy)) ((i + 1, w.set i ((r.getD i 0 + l.getD i 0 + cy) % BB), (r.getD i 0 + l.getD i 0 + cy) / BB)) (μr := []) ⟨by omega, by simpa using hwl, hww.set _ (Nat.mod_lt _ BB_pos), hcl, add_step (by omega) (by omega) hv⟩ (by omega) (And.intro rfl (And.intro rfl (And.intro rfl (And.intro rfl (And.intro rfl (And.intro rfl (And.intro rfl (trivial)))))))) (List.Perm.refl _) (fun _ h => h)
      · try simp only [decide_eq_true_eq, decide_eq_false_iff_not, Bool.not_eq_true', Bool.not_eq_false', Bool.and_eq_true, Bool.and_eq_false_iff, beq_iff_eq, bne_iff_ne, beq_eq_false_iff_ne, bne_eq_false_iff_eq, ne_eq, decide_eq_decide] at h31
        have hy0 : l.getD i 0 = 0 := getD_ge (by omega)
        refine CJ_skip ?_
        refine QJ_then ?_
        refine CJ_reg ?_
        refine LJ_y rfl rfl (YJ_move rfl) ?_
        refine LJ_y rfl rfl (YJ_move rfl) ?_
        refine LJ_y rfl rfl (YJ_move rfl) ?_
        refine LJ_y rfl rfl (YJ_move rfl) ?_
        refine LJ_y rfl rfl (YJ_move rfl) ?_
        refine LJ_y rfl rfl (YJ_ext rfl rfl (fun w => add64_run _ _ _ (by omega) (by omega) (by omega) (by omega) w)) ?_
        refine LJ_y rfl rfl (YJ_move rfl) ?_
        refine LJ_y rfl rfl (YJ_extract rfl rfl) ?_
        refine LJ_val (v := .int .u64 (((r.getD i 0 + l.getD i 0 + cy) % BB : Nat) : Int)) (congrArg (Value.int .u64) (by unfold BB; omega)) ?_
        refine LJ_y rfl rfl (YJ_extract rfl rfl) ?_
        refine LJ_val (v := .int .u64 (((r.getD i 0 + l.getD i 0 + cy) / BB : Nat) : Int)) (congrArg (Value.int .u64) (by unfold BB; omega)) ?_
        first | refine LJ_y rfl rfl (YJ_ixOwn rfl rfl elt_98 (by omega) (by omega)) ?_ | refine LJ_y rfl rfl (YJ_ixFact rfl rfl elt_98 (by repeat first | exact .head _ | apply List.Mem.tail) (by decide) (by omega) (by omega) (by omega)) ?_
        refine LJ_store (cs' := (U (w.set i ((r.getD i 0 + l.getD i 0 + cy) % BB))).toArray) (μ' := [_]) 0 rfl rfl rfl rfl tyi_108 rfl (by simp [U]; omega) rfl (U_set (by omega) rfl) rfl ?_
        refine LJ_y rfl rfl (YJ_assign rfl) ?_
        refine LJ_nil ?_
        refine QJ_in_normal ?_
        refine QJ_then ?_
        refine CJ_reg ?_
        first | refine LJ_y rfl rfl (YJ_bin rfl rfl (iop_add (by omega))) ?_ | refine LJ_y rfl rfl (YJ_bin rfl rfl rfl) ?_
        refine LJ_y rfl rfl (YJ_move rfl) ?_
        refine LJ_nil ?_
        refine QJ_round (F := fun (x : Nat × List Nat × Nat) => ⟨[(0, .slice A' r.length c'), (1, .slice A l.length c), (5, .slice (some ⟨b1, 0, none⟩) (r.length + 1) (r.length + 1)), (6, .int .u64 (x.2.2 : Int)), (21, .slice A' r.length c'), (22, .int .i64 (r.length : Int)), (23, .int .i64 (x.1 : Int))], [cellsR b1 (U x.2.1).toArray 108], [lF A l, lF A' r]⟩) (I := fun (x : Nat × List Nat × Nat) => x.1 ≤ r.length ∧ x.2.1.length = r.length + 1 ∧ W64 x.2.1 ∧ x.2.2 ≤ 1 ∧ val (x.2.1.take x.1) + BB ^ x.1 * x.2.2 = val (r.take x.1) + val (l.take x.1)) (m := fun (x : Nat × List Nat × Nat) => r.length - x.1) (i := (i, w, cy)) ((i + 1, w.set i ((r.getD i 0 + l.getD i 0 + cy) % BB), (r.getD i 0 + l.getD i 0 + cy) / BB)) (μr := []) ⟨by omega, by simpa using hwl, hww.set _ (Nat.mod_lt _ BB_pos), hcl, add_step (by omega) (by omega) hv⟩ (by omega) (And.intro rfl (And.intro rfl (And.intro rfl (And.intro rfl (And.intro rfl (And.intro rfl (And.intro rfl (trivial)))))))) (List.Perm.refl _) (fun _ h => h)
    · try simp only [decide_eq_true_eq, decide_eq_false_iff_not, Bool.not_eq_true', Bool.not_eq_false', Bool.and_eq_true, Bool.and_eq_false_iff, beq_iff_eq, bne_iff_ne, beq_eq_false_iff_ne, bne_eq_false_iff_eq, ne_eq, decide_eq_decide] at h24
      obtain rfl : i = r.length := by omega
      refine CJ_exit ?_
      refine QJ_then_exit ?_
      refine QJ_then_exit ?_
      refine QJ_in_exit ?_
      refine QJ_then ?_
      refine CJ_seq ?_
      refine CJ_reg ?_
      refine LJ_y rfl rfl (YJ_move rfl) ?_
      refine LJ_y rfl rfl (YJ_move rfl) ?_
      refine LJ_y rfl rfl (YJ_len rfl ulen_98 rfl) ?_
      refine LJ_y rfl rfl (YJ_move rfl) ?_
      first | refine LJ_y rfl rfl (YJ_ixOwn rfl rfl elt_98 (by omega) (by omega)) ?_ | refine LJ_y rfl rfl (YJ_ixFact rfl rfl elt_98 (by repeat first | exact .head _ | apply List.Mem.tail) (by decide) (by omega) (by omega) (by omega)) ?_
      refine LJ_store (cs' := (U (w.set r.length cy)).toArray) (μ' := [_]) 0 rfl rfl rfl rfl tyi_108 rfl (by simp [U]; omega) rfl (U_set (by omega) rfl) rfl ?_
      refine LJ_nil ?_
      refine QJ_then ?_
      refine CJ_seq ?_
      refine CJ_reg ?_
      refine LJ_freeze ?_
      refine LJ_addF (r' := lF (some ⟨b1, 0, none⟩) (w.set r.length cy)) (.head _) (fun w' S h => by have := cellsR_slice (n := (w.set r.length cy).length) (size := 1) (by simp [U]) w' S h; simpa [lF, U] using this) ?_
      refine LJ_y rfl rfl (YJ_move rfl) ?_
      refine LJ_callF rfl rfl rfl rfl rfl (right_c (l := w.set r.length cy) (by simpa using hwl.symm) (hww.set _ (by unfold BB; omega)) (by simp; omega) (by simp; omega)) (AllIn.sub (by first | exact trivial | exact And.intro (by repeat first | exact .head _ | apply List.Mem.tail) trivial | exact And.intro (by repeat first | exact .head _ | apply List.Mem.tail) (And.intro (by repeat first | exact .head _ | apply List.Mem.tail) trivial))) ?_
      have hcap : (digits (val (w.set r.length cy))).length ≤ r.length + 1 := by have := digits_len (val_lt (hww.set r.length (x := cy) (by unfold BB; omega))); simpa [hwl] using this
      rw [add_last hwl (by omega) hv, Nat.add_comm (val r) (val l)] at hcap ⊢
      simp only [List.cons_append, List.nil_append]
      refine LJ_y rfl rfl (YJ_assign rfl) ?_
      refine LJ_nil ?_
      refine QJ_then ?_
      refine CJ_ret ?_
      refine QJ_fin (.inl rfl) (μ' := []) (μr := _) (φ' := [dF (some ⟨b1, 0, none⟩) (val l + val r)]) (res_tmp rfl rfl) (List.Perm.refl _) (AllIn.sub (And.intro (.head _) trivial)) ?_
      exact ⟨(_, _), hcap, rfl, rfl, rfl⟩
  · try simp only [decide_eq_true_eq, decide_eq_false_iff_not, Bool.not_eq_true', Bool.not_eq_false', Bool.and_eq_true, Bool.and_eq_false_iff, beq_iff_eq, bne_iff_ne, beq_eq_false_iff_ne, bne_eq_false_iff_eq, ne_eq, decide_eq_decide] at h14
    refine CJ_skip ?_
    refine QJ_then ?_
    refine CJ_seq ?_
    refine CJ_reg ?_
    refine LJ_y rfl rfl (YJ_move rfl) ?_
    refine LJ_y rfl rfl (YJ_len rfl ulen_98 rfl) ?_
    first | refine LJ_y rfl rfl (YJ_bin rfl rfl (iop_add (by omega))) ?_ | refine LJ_y rfl rfl (YJ_bin rfl rfl rfl) ?_
    refine LJ_make rfl rfl elt_98 zer_108 rfl rfl (n := l.length + 1) (by omega) (by omega) (by omega) ?_
    intro b2
    refine LJ_y rfl rfl (YJ_assign rfl) ?_
    refine LJ_nil ?_
    refine QJ_then ?_
    refine CJ_seq ?_
    refine CJ_reg ?_
    refine LJ_y rfl rfl (YJ_assign rfl) ?_
    refine LJ_nil ?_
    refine QJ_then ?_
    refine CJ_seq ?_
    refine CJ_seq ?_
    refine CJ_reg ?_
    refine LJ_y rfl rfl (YJ_move rfl) ?_
    refine LJ_y rfl rfl (YJ_len rfl ulen_98 rfl) ?_
    refine LJ_y rfl rfl (YJ_move rfl) ?_
    refine LJ_nil ?_
    refine QJ_then ?_
    refine CJ_block ?_
    rw [made_U]
    refine CJ_loop (F := fun (x : Nat × List Nat × Nat) => ⟨[(0, .slice A l.length c), (1, .slice A' r.length c'), (5, .slice (some ⟨b2, 0, none⟩) (l.length + 1) (l.length + 1)), (6, .int .u64 (x.2.2 : Int)), (21, .slice A l.length c), (22, .int .i64 (l.length : Int)), (23, .int .i64 (x.1 : Int))], [cellsR b2 (U x.2.1).toArray 108], [lF A l, lF A' r]⟩) (I := fun (x : Nat × List Nat × Nat) => x.1 ≤ l.length ∧ x.2.1.length = l.length + 1 ∧ W64 x.2.1 ∧ x.2.2 ≤ 1 ∧ val (x.2.1.take x.1) + BB ^ x.1 * x.2.2 = val (l.take x.1) + val (r.take x.1)) (m := fun (x : Nat × List Nat × Nat) => l.length - x.1) (0, List.replicate (l.length + 1) 0, 0) (μr := []) ⟨Nat.zero_le _, by simp, W64.zeros _, Nat.zero_le _, by simp [val]⟩ (And.intro rfl (And.intro rfl (And.intro rfl (And.intro rfl (And.intro rfl (And.intro rfl (And.intro rfl trivial))))))) (List.Perm.refl _) (fun _ h => h) ?_
    rintro ⟨i, w, cy⟩ ⟨hi, hwl, hww, hcy, hv⟩
    try dsimp only at hi
    try dsimp only at hwl
    try dsimp only at hww
    try dsimp only at hcy
    try dsimp only at hv
    show CJ _ _ _ [(0, .slice A l.length c), (1, .slice A' r.length c'), (5, .slice (some ⟨b2, 0, none⟩) (l.length + 1) (l.length + 1)), (6, .int .u64 (cy : Int)), (21, .slice A l.length c), (22, .int .i64 (l.length : Int)), (23, .int .i64 (i : Int))] [cellsR b2 (U w).toArray 108] [lF A l, lF A' r]
    have hx := (hw : W64 l).getD i
    have hy := (hw' : W64 r).getD i
    have hcl := carry_le hx hy hcy
    unfold BB at hx hy
    have cc : (cy : Int) ≤ 1 := by omega
    refine CJ_seq ?_
    refine CJ_reg ?_
    refine LJ_y rfl rfl (YJ_bin rfl rfl rfl) ?_
    refine LJ_nil ?_
    refine QJ_then ?_
    refine CJ_seq ?_
    refine CJ_cond rfl (fun h24 => ?_) (fun h24 => ?_)
    · try simp only [decide_eq_true_eq, decide_eq_false_iff_not, Bool.not_eq_true', Bool.not_eq_false', Bool.and_eq_true, Bool.and_eq_false_iff, beq_iff_eq, bne_iff_ne, beq_eq_false_iff_ne, bne_eq_false_iff_eq, ne_eq, decide_eq_decide] at h24
      refine CJ_skip ?_
      refine QJ_then ?_
      refine CJ_seq ?_
      refine CJ_block ?_
      refine CJ_seq ?_
      refine CJ_reg ?_
      refine LJ_y rfl rfl (YJ_move rfl) ?_
      first | refine LJ_y rfl rfl (YJ_ixOwn rfl rfl elt_98 (by omega) (by omega)) ?_ | refine LJ_y rfl rfl (YJ_ixFact rfl rfl elt_98 (by repeat first | exact .head _ | apply List.Mem.tail) (by decide) (by omega) (by omega) (by omega)) ?_
      refine LJ_y rfl rfl (YJ_loadFact (xs := U l) rfl tyi_108 (by repeat first | exact .head _ | apply List.Mem.tail) (U_get' (k := i) (by omega) (by omega))) ?_
      refine LJ_y rfl rfl (YJ_assign rfl) ?_
      refine LJ_y rfl rfl (YJ_assign rfl) ?_
      refine LJ_nil ?_
      refine QJ_then ?_
      refine CJ_seq ?_
      refine CJ_reg ?_
      refine LJ_y rfl rfl (YJ_assign rfl) ?_
      refine LJ_nil ?_
      refine QJ_then ?_
      refine CJ_seq ?_
      refine CJ_seq ?_
      refine CJ_reg ?_
      refine LJ_y rfl rfl (YJ_move rfl) ?_
      refine LJ_y rfl rfl (YJ_move rfl) ?_
      refine LJ_y rfl rfl (YJ_len rfl ulen_98 rfl) ?_
      refine LJ_y rfl rfl (YJ_bin rfl rfl rfl) ?_
      refine LJ_nil ?_
      refine QJ_then ?_
      refine CJ_cond rfl (fun h31 => ?_) (fun h31 => ?_)
      · try simp only [decide_eq_true_eq, decide_eq_false_iff_not, Bool.not_eq_true', Bool.not_eq_false', Bool.and_eq_true, Bool.and_eq_false_iff, beq_iff_eq, bne_iff_ne, beq_eq_false_iff_ne, bne_eq_false_iff_eq, ne_eq, decide_eq_decide] at h31
        refine CJ_reg ?_
        refine LJ_y rfl rfl (YJ_move rfl) ?_
        refine LJ_y rfl rfl (YJ_move rfl) ?_
        first | refine LJ_y rfl rfl (YJ_ixOwn rfl rfl elt_98 (by omega) (by omega)) ?_ | refine LJ_y rfl rfl (YJ_ixFact rfl rfl elt_98 (by repeat first | exact .head _ | apply List.Mem.tail) (by decide) (by omega) (by omega) (by omega)) ?_
        refine LJ_y rfl rfl (YJ_loadFact (xs := U r) rfl tyi_108 (by repeat first | exact .head _ | apply List.Mem.tail) (U_get' (k := i) (by omega) (by omega))) ?_
        refine LJ_y rfl rfl (YJ_assign rfl) ?_
        refine LJ_nil ?_
        refine QJ_then ?_
        refine CJ_reg ?_
        refine LJ_y rfl rfl (YJ_move rfl) ?_
        refine LJ_y rfl rfl (YJ_move rfl) ?_
        refine LJ_y rfl rfl (YJ_move rfl) ?_
        refine LJ_y rfl rfl (YJ_move rfl) ?_
        refine LJ_y rfl rfl (YJ_move rfl) ?_
        refine LJ_y rfl rfl (YJ_ext rfl rfl (fun w => add64_run _ _ _ (by omega) (by omega) (by omega) (by omega) w)) ?_
        refine LJ_y rfl rfl (YJ_move rfl) ?_
        refine LJ_y rfl rfl (YJ_extract rfl rfl) ?_
        refine LJ_val (v := .int .u64 (((l.getD i 0 + r.getD i 0 + cy) % BB : Nat) : Int)) (congrArg (Value.int .u64) (by unfold BB; omega)) ?_
        refine LJ_y rfl rfl (YJ_extract rfl rfl) ?_
        refine LJ_val (v := .int .u64 (((l.getD i 0 + r.getD i 0 + cy) / BB : Nat) : Int)) (congrArg (Value.int .u64) (by unfold BB; omega)) ?_
        first | refine LJ_y rfl rfl (YJ_ixOwn rfl rfl elt_98 (by omega) (by omega)) ?_ | refine LJ_y rfl rfl (YJ_ixFact rfl rfl elt_98 (by repeat first | exact .head _ | apply List.Mem.tail) (by decide) (by omega) (by omega) (by omega)) ?_
        refine LJ_store (cs' := (U (w.set i ((l.getD i 0 + r.getD i 0 + cy) % BB))).toArray) (μ' := [_]) 0 rfl rfl rfl rfl tyi_108 rfl (by simp [U]; omega) rfl (U_set (by omega) rfl) rfl ?_
        refine LJ_y rfl rfl (YJ_assign rfl) ?_
        refine LJ_nil ?_
        refine QJ_in_normal ?_
        refine QJ_then ?_
        refine CJ_reg ?_
        first | refine LJ_y rfl rfl (YJ_bin rfl rfl (iop_add (by omega))) ?_ | refine LJ_y rfl rfl (YJ_bin rfl rfl rfl) ?_
        refine LJ_y rfl rfl (YJ_move rfl) ?_
        refine LJ_nil ?_
        refine QJ_round (F := fun (x : Nat × List Nat × Nat) => ⟨[(0, .slice A l.length c), (1, .slice A' r.length c'), (5, .slice (some ⟨b2, 0, none⟩) (l.length + 1) (l.length + 1)), (6, .int .u64 (x.2.2 : Int)), (21, .slice A l.length c), (22, .int .i64 (l.length : Int)), (23, .int .i64 (x.1 : Int))], [cellsR b2 (U x.2.1).toArray 108], [lF A l, lF A' r]⟩) (I := fun (x : Nat × List Nat × Nat) => x.1 ≤ l.length ∧ x.2.1.length = l.length + 1 ∧ W64 x.2.1 ∧ x.2.2 ≤ 1 ∧ val (x.2.1.take x.1) + BB ^ x.1 * x.2.2 = val (l.take x.1) + val (r.take x.1)) (m := fun (x : Nat × List Nat × Nat) => l.length - x.1) (i := (i, w, cy)) ((i + 1, w.set i ((l.getD i 0 + r.getD i 0 + cy) % BB), (l.getD i 0 + r.getD i 0 + cy) / BB)) (μr := []) ⟨by omega, by simpa using hwl, hww.set _ (Nat.mod_lt _ BB_pos), hcl, add_step (by omega) (by omega) hv⟩ (by omega) (And.intro rfl (And.intro rfl (And.intro rfl (And.intro rfl (And.intro rfl (And.intro rfl (And.intro rfl (trivial)))))))) (List.Perm.refl _) (fun _ h => h)
      · try simp only [decide_eq_true_eq, decide_eq_false_iff_not, Bool.not_eq_true', Bool.not_eq_false', Bool.and_eq_true, Bool.and_eq_false_iff, beq_iff_eq, bne_iff_ne, beq_eq_false_iff_ne, bne_eq_false_iff_eq, ne_eq, decide_eq_decide] at h31
        have hy0 : r.getD i 0 = 0 := getD_ge (by omega)
        refine CJ_skip ?_
        refine QJ_then ?_
        refine CJ_reg ?_
        refine LJ_y rfl rfl (YJ_move rfl) ?_
        refine LJ_y rfl rfl (YJ_move rfl) ?_
        refine LJ_y rfl rfl (YJ_move rfl) ?_
        refine LJ_y rfl rfl (YJ_move rfl) ?_
        refine LJ_y rfl rfl (YJ_move rfl) ?_
        refine LJ_y rfl rfl (YJ_ext rfl rfl (fun w => add64_run _ _ _ (by omega) (by omega) (by omega) (by omega) w)) ?_
        refine LJ_y rfl rfl (YJ_move rfl) ?_
        refine LJ_y rfl rfl (YJ_extract rfl rfl) ?_
        refine LJ_val (v := .int .u64 (((l.getD i 0 + r.getD i 0 + cy) % BB : Nat) : Int)) (congrArg (Value.int .u64) (by unfold BB; omega)) ?_
        refine LJ_y rfl rfl (YJ_extract rfl rfl) ?_
        refine LJ_val (v := .int .u64 (((l.getD i 0 + r.getD i 0 + cy) / BB : Nat) : Int)) (congrArg (Value.int .u64) (by unfold BB; omega)) ?_
        first | refine LJ_y rfl rfl (YJ_ixOwn rfl rfl elt_98 (by omega) (by omega)) ?_ | refine LJ_y rfl rfl (YJ_ixFact rfl rfl elt_98 (by repeat first | exact .head _ | apply List.Mem.tail) (by decide) (by omega) (by omega) (by omega)) ?_
        refine LJ_store (cs' := (U (w.set i ((l.getD i 0 + r.getD i 0 + cy) % BB))).toArray) (μ' := [_]) 0 rfl rfl rfl rfl tyi_108 rfl (by simp [U]; omega) rfl (U_set (by omega) rfl) rfl ?_
        refine LJ_y rfl rfl (YJ_assign rfl) ?_
        refine LJ_nil ?_
        refine QJ_in_normal ?_
        refine QJ_then ?_
        refine CJ_reg ?_
        first | refine LJ_y rfl rfl (YJ_bin rfl rfl (iop_add (by omega))) ?_ | refine LJ_y rfl rfl (YJ_bin rfl rfl rfl) ?_
        refine LJ_y rfl rfl (YJ_move rfl) ?_
        refine LJ_nil ?_
        refine QJ_round (F := fun (x : Nat × List Nat × Nat) => ⟨[(0, .slice A l.length c), (1, .slice A' r.length c'), (5, .slice (some ⟨b2, 0, none⟩) (l.length + 1) (l.length + 1)), (6, .int .u64 (x.2.2 : Int)), (21, .slice A l.length c), (22, .int .i64 (l.length : Int)), (23, .int .i64 (x.1 : Int))], [cellsR b2 (U x.2.1).toArray 108], [lF A l, lF A' r]⟩) (I := fun (x : Nat × List Nat × Nat) => x.1 ≤ l.length ∧ x.2.1.length = l.length + 1 ∧ W64 x.2.1 ∧ x.2.2 ≤ 1 ∧ val (x.2.1.take x.1) + BB ^ x.1 * x.2.2 = val (l.take x.1) + val (r.take x.1)) (m := fun (x : Nat × List Nat × Nat) => l.length - x.1) (i := (i, w, cy)) ((i + 1, w.set i ((l.getD i 0 + r.getD i 0 + cy) % BB), (l.getD i 0 + r.getD i 0 + cy) / BB)) (μr := []) ⟨by omega, by simpa using hwl, hww.set _ (Nat.mod_lt _ BB_pos), hcl, add_step (by omega) (by omega) hv⟩ (by omega) (And.intro rfl (And.intro rfl (And.intro rfl (And.intro rfl (And.intro rfl (And.intro rfl (And.intro rfl (trivial)))))))) (List.Perm.refl _) (fun _ h => h)
    · try simp only [decide_eq_true_eq, decide_eq_false_iff_not, Bool.not_eq_true', Bool.not_eq_false', Bool.and_eq_true, Bool.and_eq_false_iff, beq_iff_eq, bne_iff_ne, beq_eq_false_iff_ne, bne_eq_false_iff_eq, ne_eq, decide_eq_decide] at h24
      obtain rfl : i = l.length := by omega
      refine CJ_exit ?_
      refine QJ_then_exit ?_
      refine QJ_then_exit ?_
      refine QJ_in_exit ?_
      refine QJ_then ?_
      refine CJ_seq ?_
      refine CJ_reg ?_
      refine LJ_y rfl rfl (YJ_move rfl) ?_
      refine LJ_y rfl rfl (YJ_move rfl) ?_
      refine LJ_y rfl rfl (YJ_len rfl ulen_98 rfl) ?_
      refine LJ_y rfl rfl (YJ_move rfl) ?_
      first | refine LJ_y rfl rfl (YJ_ixOwn rfl rfl elt_98 (by omega) (by omega)) ?_ | refine LJ_y rfl rfl (YJ_ixFact rfl rfl elt_98 (by repeat first | exact .head _ | apply List.Mem.tail) (by decide) (by omega) (by omega) (by omega)) ?_
      refine LJ_store (cs' := (U (w.set l.length cy)).toArray) (μ' := [_]) 0 rfl rfl rfl rfl tyi_108 rfl (by simp [U]; omega) rfl (U_set (by omega) rfl) rfl ?_
      refine LJ_nil ?_
      refine QJ_then ?_
      refine CJ_seq ?_
      refine CJ_reg ?_
      refine LJ_freeze ?_
      refine LJ_addF (r' := lF (some ⟨b2, 0, none⟩) (w.set l.length cy)) (.head _) (fun w' S h => by have := cellsR_slice (n := (w.set l.length cy).length) (size := 1) (by simp [U]) w' S h; simpa [lF, U] using this) ?_
      refine LJ_y rfl rfl (YJ_move rfl) ?_
      refine LJ_callF rfl rfl rfl rfl rfl (right_c (l := w.set l.length cy) (by simpa using hwl.symm) (hww.set _ (by unfold BB; omega)) (by simp; omega) (by simp; omega)) (AllIn.sub (by first | exact trivial | exact And.intro (by repeat first | exact .head _ | apply List.Mem.tail) trivial | exact And.intro (by repeat first | exact .head _ | apply List.Mem.tail) (And.intro (by repeat first | exact .head _ | apply List.Mem.tail) trivial))) ?_
      have hcap : (digits (val (w.set l.length cy))).length ≤ l.length + 1 := by have := digits_len (val_lt (hww.set l.length (x := cy) (by unfold BB; omega))); simpa [hwl] using this
      rw [add_last hwl (by omega) hv] at hcap ⊢
      simp only [List.cons_append, List.nil_append]
      refine LJ_y rfl rfl (YJ_assign rfl) ?_
      refine LJ_nil ?_
      refine QJ_then ?_
      refine CJ_ret ?_
      refine QJ_fin (.inl rfl) (μ' := []) (μr := _) (φ' := [dF (some ⟨b2, 0, none⟩) (val l + val r)]) (res_tmp rfl rfl) (List.Perm.refl _) (AllIn.sub (And.intro (.head _) trivial)) ?_
      exact ⟨(_, _), hcap, rfl, rfl, rfl⟩

end Go.Proofs.Ytbanlhlggkdanaa
