/- The walk of mag.Mul. -/
import Derived.Test.YtbanlhlggkdanaaM4
import Derived.Test.YtbanlhlggkdanaaW4
set_option linter.unusedSimpArgs false
set_option linter.unusedVariables false
namespace Go.Proofs.Ytbanlhlggkdanaa
open Go.RowKit

theorem ent_108 : Enter Try.prog 108 = true := by kernel_rfl


theorem U_arr_get {w : List Nat} {j k : Nat} (h : j = k) (hk : k < w.length) : (U w).toArray[j]? = some (.int .u64 ((w.getD k 0 : Nat) : Int)) := by
  subst h; rw [List.getElem?_toArray]; exact U_get hk
theorem mul_bound {x y : Nat} (hx : x < BB) (hy : y < BB) : x * y ≤ 340282366920938463426481119284349108225 := by
  have := Nat.mul_le_mul (show x ≤ 18446744073709551615 by unfold BB at hx; omega) (show y ≤ 18446744073709551615 by unfold BB at hy; omega)
  omega
/-- one word of a product: what is stored, and what is carried -/
def mw (o p c : Nat) : Nat := (o + (p % BB + c) % BB) % BB
def mc (o p c : Nat) : Nat := p / BB + (p % BB + c) / BB + (o + (p % BB + c) % BB) / BB
theorem mw_mc (o p c : Nat) : mw o p c + BB * mc o p c = o + p + c := by
  unfold mw mc BB; omega
theorem mc_lt {o p c : Nat} (ho : o < BB) (hp : p ≤ 340282366920938463426481119284349108225) (hc : c < BB) : mc o p c < BB := by
  unfold mc BB at *; omega
theorem val_set_any {w : List Nat} {q k x : Nat} (hq : q < k) (hk : k ≤ w.length) : val ((w.set q x).take k) + BB ^ q * w.getD q 0 = val (w.take k) + BB ^ q * x := by
  obtain ⟨d, rfl⟩ : ∃ d, k = q + 1 + d := ⟨k - (q + 1), by omega⟩
  clear hq
  induction d with
  | zero =>
    rw [Nat.add_zero, val_set_take (by omega), val_take_succ (by omega)]
    omega
  | succ d ih =>
    have h1 := ih (by omega)
    rw [show q + 1 + (d + 1) = (q + 1 + d) + 1 by omega, val_take_succ (by simp; omega), val_take_succ (l := w) (by omega)]
    have : (w.set q x).getD (q + 1 + d) 0 = w.getD (q + 1 + d) 0 := by
      rw [List.getD, List.getD, List.getElem?_set_ne (by omega)]
    rw [this]
    omega
theorem mul_step {r w : List Nat} {i j c x V : Nat} (hj : j < r.length) (hk : i + r.length ≤ w.length) (hv : val (w.take (i + r.length)) + BB ^ (i + j) * c = V + BB ^ i * (x * val (r.take j))) :
    val ((w.set (i + j) (mw (w.getD (i + j) 0) (x * r.getD j 0) c)).take (i + r.length)) + BB ^ (i + (j + 1)) * mc (w.getD (i + j) 0) (x * r.getD j 0) c = V + BB ^ i * (x * val (r.take (j + 1))) := by
  have h1 := val_set_any (w := w) (q := i + j) (k := i + r.length) (x := mw (w.getD (i + j) 0) (x * r.getD j 0) c) (by omega) hk
  have h2 := mw_mc (w.getD (i + j) 0) (x * r.getD j 0) c
  have h3 : BB ^ (i + j) * mw (w.getD (i + j) 0) (x * r.getD j 0) c + BB ^ (i + (j + 1)) * mc (w.getD (i + j) 0) (x * r.getD j 0) c = BB ^ (i + j) * w.getD (i + j) 0 + BB ^ (i + j) * (x * r.getD j 0) + BB ^ (i + j) * c := by
    rw [show i + (j + 1) = (i + j) + 1 by omega, Nat.pow_succ, Nat.mul_assoc, ← Nat.mul_add, h2, Nat.mul_add, Nat.mul_add]
  have h4 : BB ^ i * (x * val (r.take (j + 1))) = BB ^ i * (x * val (r.take j)) + BB ^ (i + j) * (x * r.getD j 0) := by
    rw [val_take_succ hj, Nat.mul_add x, Nat.mul_add, Nat.pow_add, Nat.mul_left_comm x (BB ^ j), Nat.mul_assoc]
  omega
theorem mul_row {l r w : List Nat} {i c : Nat} (hi : i < l.length) (hk : i + r.length < w.length) (hv : val (w.take (i + r.length)) + BB ^ (i + r.length) * c = val (l.take i) * val r + BB ^ i * (l.getD i 0 * val (r.take r.length))) :
    val ((w.set (i + r.length) c).take (i + 1 + r.length)) = val (l.take (i + 1)) * val r := by
  rw [show i + 1 + r.length = i + r.length + 1 by omega, val_set_take hk, hv, val_take_succ hi, Nat.add_mul, val_take_all (Nat.le_refl _), Nat.mul_assoc]


set_option maxRecDepth 100000 in
set_option maxHeartbeats 4000000 in
theorem mmul_c {A A' : Option Addr} {n m c c' : Nat} {l r : List Nat} (hn : n = l.length) (hm : m = r.length) (hw : W64 l) (hw' : W64 r) (hl : l.length ≤ 100000) (hl' : r.length ≤ 100000) (hc : l.length ≤ c) (hc' : r.length ≤ c') : Tri Try.prog 108 [.slice A n c, .slice A' m c'] [] [lF A l, lF A' r] (RetM (val l * val r)) := by
  refine Tri_of (N := 79) Try.func108 rfl ent_108 rfl rfl ?_
  intro w0 S0 T0
  show CJ _ _ _ [(0, _), (1, _)] _ _
  subst hn
  subst hm
  refine CJ_seq ?_
  refine CJ_reg ?_
  refine LJ_y rfl rfl (YJ_assign rfl) ?_
  refine LJ_nil ?_
  refine QJ_then ?_
  refine CJ_seq ?_
  refine CJ_reg ?_
  refine LJ_y rfl rfl (YJ_move rfl) ?_
  refine LJ_y rfl rfl (YJ_len rfl ulen_98 rfl) ?_
  refine LJ_y rfl rfl (YJ_move rfl) ?_
  refine LJ_y rfl rfl (YJ_len rfl ulen_98 rfl) ?_
  first | refine LJ_y rfl rfl (YJ_bin rfl rfl (iop_add (by omega))) ?_ | refine LJ_y rfl rfl (YJ_bin rfl rfl rfl) ?_
  refine LJ_make rfl rfl elt_98 zer_108 rfl rfl (n := l.length + r.length) (by omega) (by omega) (by omega) ?_
  intro b1
  refine LJ_y rfl rfl (YJ_assign rfl) ?_
  refine LJ_nil ?_
  refine QJ_then ?_
  refine CJ_seq ?_
  refine CJ_seq ?_
  refine CJ_reg ?_
  refine LJ_y rfl rfl (YJ_move rfl) ?_
  refine LJ_y rfl rfl (YJ_len rfl ulen_98 rfl) ?_
  refine LJ_y rfl rfl (YJ_move rfl) ?_
  refine LJ_nil ?_
  refine QJ_then ?_
  refine CJ_block ?_
  rw [made_U]
  refine CJ_loop (F := fun (x : Nat × List Nat) => ⟨[(0, .slice A l.length c), (1, .slice A' r.length c'), (5, .slice (some ⟨b1, 0, none⟩) (l.length + r.length) (l.length + r.length)), (20, .slice A l.length c), (21, .int .i64 (l.length : Int)), (22, .int .i64 (x.1 : Int))], [cellsR b1 (U x.2).toArray 108], [lF A l, lF A' r]⟩) (I := fun (x : Nat × List Nat) => x.1 ≤ l.length ∧ x.2.length = l.length + r.length ∧ W64 x.2 ∧ val (x.2.take (x.1 + r.length)) = val (l.take x.1) * val r) (m := fun (x : Nat × List Nat) => l.length - x.1) (0, List.replicate (l.length + r.length) 0) (μr := []) ⟨Nat.zero_le _, by simp, W64.zeros _, by simp [val, List.take_replicate, val_zeros]⟩ (And.intro rfl (And.intro rfl (And.intro rfl (And.intro rfl (And.intro rfl (And.intro rfl (trivial))))))) (List.Perm.refl _) (fun _ h => h) ?_
  rintro ⟨i, w⟩ ⟨hi, hwl, hww, hv⟩
  try dsimp only at hi
  try dsimp only at hwl
  try dsimp only at hww
  try dsimp only at hv
  show CJ _ _ _ [(0, .slice A l.length c), (1, .slice A' r.length c'), (5, .slice (some ⟨b1, 0, none⟩) (l.length + r.length) (l.length + r.length)), (20, .slice A l.length c), (21, .int .i64 (l.length : Int)), (22, .int .i64 (i : Int))] [cellsR b1 (U w).toArray 108] [lF A l, lF A' r]
  have hx := hw.getD i
  have hx' := hx
  unfold BB at hx
  refine CJ_seq ?_
  refine CJ_reg ?_
  refine LJ_y rfl rfl (YJ_bin rfl rfl rfl) ?_
  refine LJ_nil ?_
  refine QJ_then ?_
  refine CJ_seq ?_
  refine CJ_cond rfl (fun h23 => ?_) (fun h23 => ?_)
  · try simp only [decide_eq_true_eq, decide_eq_false_iff_not, Bool.not_eq_true', Bool.not_eq_false', Bool.and_eq_true, Bool.and_eq_false_iff, beq_iff_eq, bne_iff_ne, beq_eq_false_iff_ne, bne_eq_false_iff_eq, ne_eq, decide_eq_decide] at h23
    refine CJ_skip ?_
    refine QJ_then ?_
    refine CJ_seq ?_
    refine CJ_block ?_
    refine CJ_seq ?_
    refine CJ_reg ?_
    refine LJ_y rfl rfl (YJ_move rfl) ?_
    first | refine LJ_y rfl rfl (YJ_ixOwn rfl rfl elt_98 (by omega) (by omega)) ?_ | refine LJ_y rfl rfl (YJ_ixFact rfl rfl elt_98 (by repeat first | exact .head _ | apply List.Mem.tail) (by decide) (by omega) (by omega) (by omega)) ?_
    refine LJ_y rfl rfl (YJ_loadFact (xs := U l) rfl tyi_108 (by repeat first | exact .head _ | apply List.Mem.tail) (U_get' (k := i) (by omega) (by omega))) ?_
    refine LJ_y rfl rfl (YJ_assign rfl) ?_
    refine LJ_y rfl rfl (YJ_assign rfl) ?_
    refine LJ_nil ?_
    refine QJ_then ?_
    refine CJ_seq ?_
    refine CJ_reg ?_
    refine LJ_y rfl rfl (YJ_assign rfl) ?_
    refine LJ_nil ?_
    refine QJ_then ?_
    refine CJ_seq ?_
    refine CJ_seq ?_
    refine CJ_reg ?_
    refine LJ_y rfl rfl (YJ_move rfl) ?_
    refine LJ_y rfl rfl (YJ_len rfl ulen_98 rfl) ?_
    refine LJ_y rfl rfl (YJ_move rfl) ?_
    refine LJ_nil ?_
    refine QJ_then ?_
    refine CJ_block ?_
    refine CJ_loop (F := fun (x : Nat × List Nat × Nat) => ⟨[(0, .slice A l.length c), (1, .slice A' r.length c'), (5, .slice (some ⟨b1, 0, none⟩) (l.length + r.length) (l.length + r.length)), (6, .int .i64 (i : Int)), (7, .int .u64 ((l.getD i 0 : Nat) : Int)), (8, .int .u64 (x.2.2 : Int)), (20, .slice A l.length c), (21, .int .i64 (l.length : Int)), (22, .int .i64 (i : Int)), (27, .slice A' r.length c'), (28, .int .i64 (r.length : Int)), (29, .int .i64 (x.1 : Int))], [cellsR b1 (U x.2.1).toArray 108], [lF A l, lF A' r]⟩) (I := fun (x : Nat × List Nat × Nat) => x.1 ≤ r.length ∧ x.2.1.length = l.length + r.length ∧ W64 x.2.1 ∧ x.2.2 < BB ∧ val (x.2.1.take (i + r.length)) + BB ^ (i + x.1) * x.2.2 = val (l.take i) * val r + BB ^ i * (l.getD i 0 * val (r.take x.1))) (m := fun (x : Nat × List Nat × Nat) => r.length - x.1) (0, w, 0) (μr := []) ⟨Nat.zero_le _, hwl, hww, BB_pos, by simp [val, hv]⟩ (And.intro rfl (And.intro rfl (And.intro rfl (And.intro rfl (And.intro rfl (And.intro rfl (And.intro rfl (And.intro rfl (And.intro rfl (And.intro rfl (And.intro rfl (And.intro rfl (trivial))))))))))))) (List.Perm.refl _) (fun _ h => h) ?_
    rintro ⟨j, w, cy⟩ ⟨hj, hwl, hww, hcy, hv⟩
    try dsimp only at hj
    try dsimp only at hwl
    try dsimp only at hww
    try dsimp only at hcy
    try dsimp only at hv
    show CJ _ _ _ [(0, .slice A l.length c), (1, .slice A' r.length c'), (5, .slice (some ⟨b1, 0, none⟩) (l.length + r.length) (l.length + r.length)), (6, .int .i64 (i : Int)), (7, .int .u64 ((l.getD i 0 : Nat) : Int)), (8, .int .u64 (cy : Int)), (20, .slice A l.length c), (21, .int .i64 (l.length : Int)), (22, .int .i64 (i : Int)), (27, .slice A' r.length c'), (28, .int .i64 (r.length : Int)), (29, .int .i64 (j : Int))] [cellsR b1 (U w).toArray 108] [lF A l, lF A' r]
    have hy := hw'.getD j
    have hy' := hy
    have ho := hww.getD (i + j)
    have ho' := ho
    have hcy' := hcy
    unfold BB at hy ho hcy'
    have hp := mul_bound hx' hy'
    have hmc := mc_lt ho' hp hcy
    have hmc' := hmc
    unfold BB at hmc'
    refine CJ_seq ?_
    refine CJ_reg ?_
    refine LJ_y rfl rfl (YJ_bin rfl rfl rfl) ?_
    refine LJ_nil ?_
    refine QJ_then ?_
    refine CJ_seq ?_
    refine CJ_cond rfl (fun h30 => ?_) (fun h30 => ?_)
    · try simp only [decide_eq_true_eq, decide_eq_false_iff_not, Bool.not_eq_true', Bool.not_eq_false', Bool.and_eq_true, Bool.and_eq_false_iff, beq_iff_eq, bne_iff_ne, beq_eq_false_iff_ne, bne_eq_false_iff_eq, ne_eq, decide_eq_decide] at h30
      refine CJ_skip ?_
      refine QJ_then ?_
      refine CJ_seq ?_
      refine CJ_block ?_
      refine CJ_seq ?_
      refine CJ_reg ?_
      refine LJ_y rfl rfl (YJ_move rfl) ?_
      first | refine LJ_y rfl rfl (YJ_ixOwn rfl rfl elt_98 (by omega) (by omega)) ?_ | refine LJ_y rfl rfl (YJ_ixFact rfl rfl elt_98 (by repeat first | exact .head _ | apply List.Mem.tail) (by decide) (by omega) (by omega) (by omega)) ?_
      refine LJ_y rfl rfl (YJ_loadFact (xs := U r) rfl tyi_108 (by repeat first | exact .head _ | apply List.Mem.tail) (U_get' (k := j) (by omega) (by omega))) ?_
      refine LJ_y rfl rfl (YJ_assign rfl) ?_
      refine LJ_y rfl rfl (YJ_assign rfl) ?_
      refine LJ_nil ?_
      refine QJ_then ?_
      refine CJ_seq ?_
      refine CJ_reg ?_
      refine LJ_y rfl rfl (YJ_move rfl) ?_
      refine LJ_y rfl rfl (YJ_move rfl) ?_
      refine LJ_call0 rfl rfl rfl rfl rfl (mul64_c _ _ (by omega) (by omega) (by omega) (by omega)) (AllIn.sub (by first | exact trivial | exact And.intro (by repeat first | exact .head _ | apply List.Mem.tail) trivial | exact And.intro (by repeat first | exact .head _ | apply List.Mem.tail) (And.intro (by repeat first | exact .head _ | apply List.Mem.tail) trivial))) ?_
      refine LJ_y rfl rfl (YJ_move rfl) ?_
      refine LJ_y rfl rfl (YJ_extract rfl rfl) ?_
      refine LJ_val (v := .int .u64 ((((l.getD i 0) * (r.getD j 0)) / BB : Nat) : Int)) (congrArg (Value.int .u64) (by rw [← Int.natCast_mul]; unfold BB; omega)) ?_
      refine LJ_y rfl rfl (YJ_extract rfl rfl) ?_
      refine LJ_val (v := .int .u64 ((((l.getD i 0) * (r.getD j 0)) % BB : Nat) : Int)) (congrArg (Value.int .u64) (by rw [← Int.natCast_mul]; unfold BB; omega)) ?_
      refine LJ_y rfl rfl (YJ_assign rfl) ?_
      refine LJ_y rfl rfl (YJ_assign rfl) ?_
      refine LJ_nil ?_
      refine QJ_then ?_
      refine CJ_seq ?_
      refine CJ_reg ?_
      refine LJ_y rfl rfl (YJ_assign rfl) ?_
      refine LJ_nil ?_
      refine QJ_then ?_
      refine CJ_seq ?_
      refine CJ_reg ?_
      refine LJ_y rfl rfl (YJ_move rfl) ?_
      refine LJ_y rfl rfl (YJ_move rfl) ?_
      refine LJ_y rfl rfl (YJ_ext rfl rfl (fun w => add64_run _ _ _ (by omega) (by omega) (by omega) (by omega) w)) ?_
      refine LJ_y rfl rfl (YJ_move rfl) ?_
      refine LJ_y rfl rfl (YJ_extract rfl rfl) ?_
      refine LJ_val (v := .int .u64 (((((l.getD i 0) * (r.getD j 0)) % BB + cy) % BB : Nat) : Int)) (congrArg (Value.int .u64) (by unfold BB; omega)) ?_
      refine LJ_y rfl rfl (YJ_extract rfl rfl) ?_
      refine LJ_val (v := .int .u64 (((((l.getD i 0) * (r.getD j 0)) % BB + cy) / BB : Nat) : Int)) (congrArg (Value.int .u64) (by unfold BB; omega)) ?_
      refine LJ_y rfl rfl (YJ_assign rfl) ?_
      refine LJ_y rfl rfl (YJ_assign rfl) ?_
      refine LJ_nil ?_
      refine QJ_then ?_
      refine CJ_seq ?_
      refine CJ_reg ?_
      refine LJ_y rfl rfl (YJ_move rfl) ?_
      refine LJ_y rfl rfl (YJ_move rfl) ?_
      refine LJ_y rfl rfl (YJ_bin rfl rfl (iop_addu (by unfold BB; omega))) ?_
      refine LJ_y rfl rfl (YJ_assign rfl) ?_
      refine LJ_nil ?_
      refine QJ_then ?_
      refine CJ_seq ?_
      refine CJ_reg ?_
      refine LJ_y rfl rfl (YJ_move rfl) ?_
      refine LJ_y rfl rfl (YJ_move rfl) ?_
      refine LJ_y rfl rfl (YJ_move rfl) ?_
      first | refine LJ_y rfl rfl (YJ_bin rfl rfl (iop_add (by omega))) ?_ | refine LJ_y rfl rfl (YJ_bin rfl rfl rfl) ?_
      refine LJ_y rfl rfl (YJ_move rfl) ?_
      refine LJ_y rfl rfl (YJ_move rfl) ?_
      refine LJ_y rfl rfl (YJ_move rfl) ?_
      first | refine LJ_y rfl rfl (YJ_bin rfl rfl (iop_add (by omega))) ?_ | refine LJ_y rfl rfl (YJ_bin rfl rfl rfl) ?_
      first | refine LJ_y rfl rfl (YJ_ixOwn rfl rfl elt_98 (by omega) (by omega)) ?_ | refine LJ_y rfl rfl (YJ_ixFact rfl rfl elt_98 (by repeat first | exact .head _ | apply List.Mem.tail) (by decide) (by omega) (by omega) (by omega)) ?_
      refine LJ_y rfl rfl (YJ_load1 rfl tyi_108 (by repeat first | exact .head _ | apply List.Mem.tail) (U_arr_get (k := i + j) (by omega) (by omega))) ?_
      refine LJ_y rfl rfl (YJ_move rfl) ?_
      refine LJ_y rfl rfl (YJ_ext rfl rfl (fun w => add64_run _ _ _ (by omega) (by omega) (by omega) (by omega) w)) ?_
      refine LJ_y rfl rfl (YJ_move rfl) ?_
      refine LJ_y rfl rfl (YJ_extract rfl rfl) ?_
      refine LJ_val (v := .int .u64 ((mw (w.getD (i + j) 0) ((l.getD i 0) * (r.getD j 0)) cy : Nat) : Int)) (congrArg (Value.int .u64) (by unfold mw BB; omega)) ?_
      refine LJ_y rfl rfl (YJ_extract rfl rfl) ?_
      refine LJ_val (v := .int .u64 ((((w.getD (i + j) 0) + (((l.getD i 0) * (r.getD j 0)) % BB + cy) % BB) / BB : Nat) : Int)) (congrArg (Value.int .u64) (by unfold BB; omega)) ?_
      first | refine LJ_y rfl rfl (YJ_ixOwn rfl rfl elt_98 (by omega) (by omega)) ?_ | refine LJ_y rfl rfl (YJ_ixFact rfl rfl elt_98 (by repeat first | exact .head _ | apply List.Mem.tail) (by decide) (by omega) (by omega) (by omega)) ?_
      refine LJ_store (cs' := (U (w.set (i + j) (mw (w.getD (i + j) 0) ((l.getD i 0) * (r.getD j 0)) cy))).toArray) (μ' := [_]) 0 rfl rfl rfl rfl tyi_108 rfl (by simp [U]; omega) rfl (U_set (by omega) rfl) rfl ?_
      refine LJ_y rfl rfl (YJ_assign rfl) ?_
      refine LJ_nil ?_
      refine QJ_then ?_
      refine CJ_reg ?_
      refine LJ_y rfl rfl (YJ_move rfl) ?_
      refine LJ_y rfl rfl (YJ_move rfl) ?_
      refine LJ_y rfl rfl (YJ_bin rfl rfl (iop_addu (by unfold mc at hmc'; unfold BB at *; omega))) ?_
      refine LJ_val (v := .int .u64 ((mc (w.getD (i + j) 0) ((l.getD i 0) * (r.getD j 0)) cy : Nat) : Int)) (congrArg (Value.int .u64) (by unfold mc; omega)) ?_
      refine LJ_y rfl rfl (YJ_assign rfl) ?_
      refine LJ_nil ?_
      refine QJ_in_normal ?_
      refine QJ_then ?_
      refine CJ_reg ?_
      first | refine LJ_y rfl rfl (YJ_bin rfl rfl (iop_add (by omega))) ?_ | refine LJ_y rfl rfl (YJ_bin rfl rfl rfl) ?_
      refine LJ_y rfl rfl (YJ_move rfl) ?_
      refine LJ_nil ?_
      refine QJ_round (F := fun (x : Nat × List Nat × Nat) => ⟨[(0, .slice A l.length c), (1, .slice A' r.length c'), (5, .slice (some ⟨b1, 0, none⟩) (l.length + r.length) (l.length + r.length)), (6, .int .i64 (i : Int)), (7, .int .u64 ((l.getD i 0 : Nat) : Int)), (8, .int .u64 (x.2.2 : Int)), (20, .slice A l.length c), (21, .int .i64 (l.length : Int)), (22, .int .i64 (i : Int)), (27, .slice A' r.length c'), (28, .int .i64 (r.length : Int)), (29, .int .i64 (x.1 : Int))], [cellsR b1 (U x.2.1).toArray 108], [lF A l, lF A' r]⟩) (I := fun (x : Nat × List Nat × Nat) => x.1 ≤ r.length ∧ x.2.1.length = l.length + r.length ∧ W64 x.2.1 ∧ x.2.2 < BB ∧ val (x.2.1.take (i + r.length)) + BB ^ (i + x.1) * x.2.2 = val (l.take i) * val r + BB ^ i * (l.getD i 0 * val (r.take x.1))) (m := fun (x : Nat × List Nat × Nat) => r.length - x.1) (i := (j, w, cy)) ((j + 1, w.set (i + j) (mw (w.getD (i + j) 0) ((l.getD i 0) * (r.getD j 0)) cy), mc (w.getD (i + j) 0) ((l.getD i 0) * (r.getD j 0)) cy)) (μr := []) ⟨by omega, by simpa using hwl, hww.set _ (Nat.mod_lt _ BB_pos), hmc, mul_step (by omega) (by omega) hv⟩ (by omega) (And.intro rfl (And.intro rfl (And.intro rfl (And.intro rfl (And.intro rfl (And.intro rfl (And.intro rfl (And.intro rfl (And.intro rfl (And.intro rfl (And.intro rfl (And.intro rfl (trivial))))))))))))) (List.Perm.refl _) (fun _ h => h)
    · try simp only [decide_eq_true_eq, decide_eq_false_iff_not, Bool.not_eq_true', Bool.not_eq_false', Bool.and_eq_true, Bool.and_eq_false_iff, beq_iff_eq, bne_iff_ne, beq_eq_false_iff_ne, bne_eq_false_iff_eq, ne_eq, decide_eq_decide] at h30
      obtain rfl : j = r.length := by omega
      refine CJ_exit ?_
      refine QJ_then_exit ?_
      refine QJ_then_exit ?_
      refine QJ_in_exit ?_
      refine QJ_then ?_
      refine CJ_reg ?_
      refine LJ_y rfl rfl (YJ_move rfl) ?_
      refine LJ_y rfl rfl (YJ_move rfl) ?_
      refine LJ_y rfl rfl (YJ_move rfl) ?_
      refine LJ_y rfl rfl (YJ_len rfl ulen_98 rfl) ?_
      first | refine LJ_y rfl rfl (YJ_bin rfl rfl (iop_add (by omega))) ?_ | refine LJ_y rfl rfl (YJ_bin rfl rfl rfl) ?_
      refine LJ_y rfl rfl (YJ_move rfl) ?_
      first | refine LJ_y rfl rfl (YJ_ixOwn rfl rfl elt_98 (by omega) (by omega)) ?_ | refine LJ_y rfl rfl (YJ_ixFact rfl rfl elt_98 (by repeat first | exact .head _ | apply List.Mem.tail) (by decide) (by omega) (by omega) (by omega)) ?_
      refine LJ_store (cs' := (U (w.set (i + r.length) cy)).toArray) (μ' := [_]) 0 rfl rfl rfl rfl tyi_108 rfl (by simp [U]; omega) rfl (U_set (by omega) rfl) rfl ?_
      refine LJ_nil ?_
      refine QJ_in_normal ?_
      refine QJ_then ?_
      refine CJ_reg ?_
      first | refine LJ_y rfl rfl (YJ_bin rfl rfl (iop_add (by omega))) ?_ | refine LJ_y rfl rfl (YJ_bin rfl rfl rfl) ?_
      refine LJ_y rfl rfl (YJ_move rfl) ?_
      refine LJ_nil ?_
      refine QJ_round (F := fun (x : Nat × List Nat) => ⟨[(0, .slice A l.length c), (1, .slice A' r.length c'), (5, .slice (some ⟨b1, 0, none⟩) (l.length + r.length) (l.length + r.length)), (20, .slice A l.length c), (21, .int .i64 (l.length : Int)), (22, .int .i64 (x.1 : Int))], [cellsR b1 (U x.2).toArray 108], [lF A l, lF A' r]⟩) (I := fun (x : Nat × List Nat) => x.1 ≤ l.length ∧ x.2.length = l.length + r.length ∧ W64 x.2 ∧ val (x.2.take (x.1 + r.length)) = val (l.take x.1) * val r) (m := fun (x : Nat × List Nat) => l.length - x.1) (i := (i, w)) ((i + 1, w.set (i + r.length) cy)) (μr := []) ⟨by omega, by simpa using hwl, hww.set _ hcy, mul_row (by omega) (by omega) hv⟩ (by omega) (And.intro rfl (And.intro rfl (And.intro rfl (And.intro rfl (And.intro rfl (And.intro rfl (trivial))))))) (List.Perm.refl _) (fun _ h => h)
  · try simp only [decide_eq_true_eq, decide_eq_false_iff_not, Bool.not_eq_true', Bool.not_eq_false', Bool.and_eq_true, Bool.and_eq_false_iff, beq_iff_eq, bne_iff_ne, beq_eq_false_iff_ne, bne_eq_false_iff_eq, ne_eq, decide_eq_decide] at h23
    obtain rfl : i = l.length := by omega
    refine CJ_exit ?_
    refine QJ_then_exit ?_
    refine QJ_then_exit ?_
    refine QJ_in_exit ?_
    refine QJ_then ?_
    refine CJ_seq ?_
    refine CJ_reg ?_
    refine LJ_freeze ?_
    refine LJ_addF (r' := lF (some ⟨b1, 0, none⟩) w) (.head _) (fun w' S h => by have := cellsR_slice (n := w.length) (size := 1) (by simp [U]) w' S h; simpa [lF, U] using this) ?_
    refine LJ_y rfl rfl (YJ_move rfl) ?_
    refine LJ_callF rfl rfl rfl rfl rfl (right_c (l := w) hwl.symm hww (by omega) (by omega)) (AllIn.sub (by first | exact trivial | exact And.intro (by repeat first | exact .head _ | apply List.Mem.tail) trivial | exact And.intro (by repeat first | exact .head _ | apply List.Mem.tail) (And.intro (by repeat first | exact .head _ | apply List.Mem.tail) trivial))) ?_
    have hcap : (digits (val w)).length ≤ l.length + r.length := by have := digits_len (val_lt hww); omega
    rw [val_take_all (by omega), val_take_all (Nat.le_refl _)] at hv
    rw [hv] at hcap ⊢
    simp only [List.cons_append, List.nil_append]
    refine LJ_y rfl rfl (YJ_assign rfl) ?_
    refine LJ_nil ?_
    refine QJ_then ?_
    refine CJ_ret ?_
    refine QJ_fin (.inl rfl) (μ' := []) (μr := _) (φ' := [dF (some ⟨b1, 0, none⟩) (val l * val r)]) (res_tmp rfl rfl) (List.Perm.refl _) (AllIn.sub (And.intro (.head _) trivial)) ?_
    exact ⟨(_, _), hcap, rfl, rfl, rfl⟩

end Go.Proofs.Ytbanlhlggkdanaa
