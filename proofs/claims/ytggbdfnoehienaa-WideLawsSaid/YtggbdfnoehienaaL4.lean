/- The walk of the statement WideLaws. -/
import Derived.Test.YtggbdfnoehienaaL3
set_option linter.unusedSimpArgs false
set_option linter.unusedVariables false
namespace Go.Proofs.Ytggbdfnoehienaa
open Go.RowKit

theorem ent_4 : Enter Try.prog 4 = true := by kernel_rfl


theorem eqs_neq_24 (a b c d : Int) (x y : Operand) (w : World) :
    (do eqGuard .neq 24 x y (.agg #[.int .u64 a, .int .u64 b]) (.agg #[.int .u64 c, .int .u64 d]); binOp .neq 24 (.agg #[.int .u64 a, .int .u64 b]) (.agg #[.int .u64 c, .int .u64 d]) : Sem Value).run Try.prog w = .ok (.bool (!(decide (a = c) && decide (b = d)))) w := by
  have hf : Try.prog.underlying 24 = some (.struct (Try.prog.fieldsOf 24)) := by kernel_rfl
  simp only [Sem.run_bind]
  rw [run_eqGuard_agg w .neq 24 x y _ _ (by kernel_rfl)]
  simp only [Result.andThen_ok, run_neq_struct]
  rw [show (10000 : Nat) = 9999 + 1 from rfl, run_equalIn_agg w 9999 24 _ _ hf (by kernel_rfl)]
  simp [go_sem]
  by_cases h1 : a = c <;> by_cases h2 : b = d <;> simp [h1, h2]
theorem isW_eqb {h l h' l' x : Int} (e : IsW h l x) (e' : IsW h' l' x) : (decide (h = h') && decide (l = l')) = true := by
  rw [decide_eq_true (e.1.trans e'.1.symm), decide_eq_true (e.2.trans e'.2.symm)]; rfl
def M32 (x : Int) : Prop := 0 ≤ x ∧ x < 4294967296
theorem M32.i {x : Int} (h : M32 x) : I64 x := by unfold M32 at h; unfold I64; omega
theorem M32.n {x : Int} (h : M32 x) : I64 (-x) := by unfold M32 at h; unfold I64; omega
theorem M32.k {x : Int} (h : M32 x) (k : Int) (h0 : 0 ≤ k) (h3 : k ≤ 3) : I64 (k * x) := by
  have : 0 ≤ k * x := Int.mul_nonneg h0 h.1
  have : k * x ≤ 3 * 4294967296 := Int.mul_le_mul h3 (Int.le_of_lt h.2) h.1 (by decide)
  unfold I64; omega
theorem mul_M32 {x y : Int} (h : M32 x) (h' : M32 y) : 0 ≤ x * y ∧ x * y ≤ 18446744073709551616 :=
  ⟨Int.mul_nonneg h.1 h'.1, Int.mul_le_mul (Int.le_of_lt h.2) (Int.le_of_lt h'.2) h'.1 (by decide)⟩
theorem mul_N {x n k : Int} (hx : -k ≤ x ∧ x ≤ k) (hn : 0 ≤ n ∧ n < 4096) : -(k * 4096) ≤ x * n ∧ x * n ≤ k * 4096 := by
  have h0 : 0 ≤ k := by omega
  constructor
  · have h1 : -k * n ≤ x * n := Int.mul_le_mul_of_nonneg_right hx.1 hn.1
    have h2 : k * n ≤ k * 4096 := Int.mul_le_mul_of_nonneg_left (Int.le_of_lt hn.2) h0
    rw [Int.neg_mul] at h1
    omega
  · exact Int.mul_le_mul hx.2 (Int.le_of_lt hn.2) hn.1 h0
theorem set_step {w : List Int} {i : Nat} (h : ∀ j, j < i → M32 (w.getD j 0)) (hi : i < w.length) : ∀ j, j < i + 1 → M32 ((w.set i (w.getD i 0 % 4294967296)).getD j 0) := fun j hj => by
  rw [getD_set]
  by_cases e : i = j
  · subst e
    rw [if_pos ⟨rfl, hi⟩]; unfold M32; omega
  · rw [if_neg (fun q => e q.1)]; exact h j (by omega)
theorem det_two (p q r s : Int) : det (2 * p) (2 * q) r s = det p q r s * 2 := by
  unfold det; rw [Int.mul_assoc, Int.mul_assoc]; omega
theorem det_three (p q : Int) : det p q (3 * p) (3 * q) = 0 := by
  unfold det
  rw [Int.mul_left_comm p 3 q, Int.mul_left_comm q 3 p, Int.mul_comm q p]; omega
theorem det_M32 {p q r s : Int} (hp : M32 p) (hq : M32 q) (hr : M32 r) (hs : M32 s) : -18446744073709551616 ≤ det p q r s ∧ det p q r s ≤ 18446744073709551616 := by
  have h1 := mul_M32 hp hs
  have h2 := mul_M32 hq hr
  unfold det; omega


set_option maxRecDepth 100000 in
set_option maxHeartbeats 8000000 in
theorem laws_c {a b c d n : Int} : Tri Try.prog 4 [.agg #[.int .i64 a, .int .i64 b, .int .i64 c, .int .i64 d], .int .i64 n] [] [] (Ret0 (.bool true)) := by
  refine Tri_of (N := 143) Try.func4 rfl ent_4 rfl rfl ?_
  intro w0 S0 T0
  show CJ _ _ _ [(0, _), (1, _)] _ _
  refine CJ_seq ?_
  refine CJ_reg ?_
  refine LJ_box (cs := #[_, _, _, _]) rfl rfl rfl rfl ?_
  intro b1
  refine LJ_y rfl rfl (YJ_assign rfl) ?_
  refine LJ_nil ?_
  refine QJ_then ?_
  refine CJ_seq ?_
  refine CJ_seq ?_
  refine CJ_reg ?_
  refine LJ_call0 rfl rfl rfl rfl rfl fit_c (AllIn.sub (by first | exact trivial | exact And.intro (by repeat first | exact .head _ | apply List.Mem.tail) trivial | exact And.intro (by repeat first | exact .head _ | apply List.Mem.tail) (And.intro (by repeat first | exact .head _ | apply List.Mem.tail) trivial))) ?_
  refine LJ_y rfl rfl (YJ_not rfl) ?_
  refine LJ_nil ?_
  refine QJ_then ?_
  refine CJ_condF rfl ?_
  refine CJ_skip ?_
  refine QJ_then ?_
  refine CJ_seq ?_
  refine CJ_reg ?_
  refine LJ_y rfl rfl (YJ_move rfl) ?_
  refine LJ_y rfl rfl (YJ_andM 12 rfl rfl (by decide) (by decide)) ?_
  refine LJ_val (v := .int .i64 (n % 4096)) (rfl) ?_
  refine LJ_y rfl rfl (YJ_assign rfl) ?_
  refine LJ_nil ?_
  refine QJ_then ?_
  refine CJ_seq ?_
  refine CJ_seq ?_
  refine CJ_reg ?_
  refine LJ_y rfl rfl (YJ_move rfl) ?_
  refine LJ_nil ?_
  refine QJ_then ?_
  refine CJ_block ?_
  have hN : 0 ≤ n % 4096 ∧ n % 4096 < 4096 := by omega
  generalize n % 4096 = N at hN ⊢
  refine CJ_loop (F := fun (x : Nat × List Int) => ⟨[(1, .int .i64 N), (2, .pointer (some ⟨b1, 0, none⟩)), (26, .int .i64 (x.1 : Int))], [cellsR b1 (Iv x.2).toArray 36], []⟩) (I := fun (x : Nat × List Int) => x.1 ≤ 4 ∧ x.2.length = 4 ∧ ∀ j, j < x.1 → M32 (x.2.getD j 0)) (m := fun (x : Nat × List Int) => 4 - x.1) (0, [a, b, c, d]) (μr := []) ⟨Nat.zero_le _, rfl, fun j hj => absurd hj (Nat.not_lt_zero j)⟩ (And.intro rfl (And.intro rfl (And.intro rfl (trivial)))) (List.Perm.refl _) (fun _ h => h) ?_
  rintro ⟨i, w⟩ ⟨hi, hwl, hr⟩
  try dsimp only at hi
  try dsimp only at hwl
  try dsimp only at hr
  show CJ _ _ _ [(1, .int .i64 N), (2, .pointer (some ⟨b1, 0, none⟩)), (26, .int .i64 (i : Int))] [cellsR b1 (Iv w).toArray 36] []
  refine CJ_seq ?_
  refine CJ_reg ?_
  refine LJ_y rfl rfl (YJ_bin rfl rfl rfl) ?_
  refine LJ_nil ?_
  refine QJ_then ?_
  refine CJ_seq ?_
  refine CJ_cond rfl (fun h27 => ?_) (fun h27 => ?_)
  · try simp only [decide_eq_true_eq, decide_eq_false_iff_not, Bool.not_eq_true', Bool.not_eq_false', Bool.and_eq_true, Bool.and_eq_false_iff, beq_iff_eq, bne_iff_ne, beq_eq_false_iff_ne, bne_eq_false_iff_eq, ne_eq, decide_eq_decide] at h27
    refine CJ_skip ?_
    refine QJ_then ?_
    refine CJ_seq ?_
    refine CJ_block ?_
    refine CJ_seq ?_
    refine CJ_reg ?_
    refine LJ_y rfl rfl (YJ_move rfl) ?_
    refine LJ_y rfl rfl (YJ_assign rfl) ?_
    refine LJ_nil ?_
    refine QJ_then ?_
    refine CJ_reg ?_
    refine LJ_y rfl rfl (YJ_move rfl) ?_
    refine LJ_y rfl rfl (YJ_move rfl) ?_
    refine LJ_y rfl rfl (YJ_ixArr rfl rfl arrt_36 (by omega) (by omega) rfl) ?_
    refine LJ_y rfl rfl (YJ_loadL rfl tyi_3 (by repeat first | exact .head _ | apply List.Mem.tail) (Iv_get (l := w) (k := i) (by omega) (by omega))) ?_
    refine LJ_y rfl rfl (YJ_andM 32 rfl rfl (by decide) (by decide)) ?_
    refine LJ_val (v := .int .i64 (w.getD i 0 % 4294967296)) (rfl) ?_
    refine LJ_y rfl rfl (YJ_ixArr rfl rfl arrt_36 (by omega) (by omega) rfl) ?_
    refine LJ_store (cs' := (Iv (w.set i (w.getD i 0 % 4294967296))).toArray) (μ' := [_]) 0 rfl rfl rfl rfl tyi_3 rfl (by simp [Iv]; omega) rfl (Iv_set (by omega)) rfl ?_
    refine LJ_nil ?_
    refine QJ_in_normal ?_
    refine QJ_then ?_
    refine CJ_reg ?_
    first | refine LJ_y rfl rfl (YJ_bin rfl rfl (iop_add (by omega))) ?_ | refine LJ_y rfl rfl (YJ_bin rfl rfl rfl) ?_
    refine LJ_y rfl rfl (YJ_move rfl) ?_
    refine LJ_nil ?_
    refine QJ_round (F := fun (x : Nat × List Int) => ⟨[(1, .int .i64 N), (2, .pointer (some ⟨b1, 0, none⟩)), (26, .int .i64 (x.1 : Int))], [cellsR b1 (Iv x.2).toArray 36], []⟩) (I := fun (x : Nat × List Int) => x.1 ≤ 4 ∧ x.2.length = 4 ∧ ∀ j, j < x.1 → M32 (x.2.getD j 0)) (m := fun (x : Nat × List Int) => 4 - x.1) (i := (i, w)) ((i + 1, w.set i (w.getD i 0 % 4294967296))) (μr := []) ⟨by omega, by simpa using hwl, set_step hr (by omega)⟩ (by omega) (And.intro rfl (And.intro rfl (And.intro rfl (trivial)))) (List.Perm.refl _) (fun _ h => h)
  · try simp only [decide_eq_true_eq, decide_eq_false_iff_not, Bool.not_eq_true', Bool.not_eq_false', Bool.and_eq_true, Bool.and_eq_false_iff, beq_iff_eq, bne_iff_ne, beq_eq_false_iff_ne, bne_eq_false_iff_eq, ne_eq, decide_eq_decide] at h27
    obtain rfl : i = 4 := by omega
    obtain ⟨p, q, r, s, rfl⟩ := list4 hwl
    have hp : M32 p := hr 0 (by omega)
    have hq : M32 q := hr 1 (by omega)
    have hs : M32 s := hr 3 (by omega)
    have hr : M32 r := hr 2 (by omega)
    have iN : I64 N := by unfold I64; omega
    have hX := mul_M32 hp hq
    have hY : -18446744073709551616 ≤ -r * s ∧ -r * s ≤ 0 := by
      have := mul_M32 hr hs
      rw [Int.neg_mul]; omega
    have hXN := mul_N (x := p * q) (k := 18446744073709551616) (by omega) hN
    have hYN := mul_N (x := -r * s) (k := 18446744073709551616) (by omega) hN
    have hSN : (p * q + -r * s) * N = p * q * N + -r * s * N := Int.add_mul _ _ _
    have rX : R128 (p * q) := by unfold R128; omega
    have rY : R128 (-r * s) := by unfold R128; omega
    have rS : R128 (p * q + -r * s) := by unfold R128; omega
    have rXN : R128 (p * q * N) := by unfold R128; omega
    have rYN : R128 (-r * s * N) := by unfold R128; omega
    have rSN : R128 (p * q * N + -r * s * N) := by unfold R128; omega
    have hD := det_M32 hp hq hr hs
    have rD : R128 (det p q r s) := by unfold R128; omega
    have rD2 : R128 (det p q r s * 2) := by unfold R128; omega
    show CJ _ _ _ _ [cellsR b1 #[.int .i64 p, .int .i64 q, .int .i64 r, .int .i64 s] 36] _
    refine CJ_exit ?_
    refine QJ_then_exit ?_
    refine QJ_then_exit ?_
    refine QJ_in_exit ?_
    refine QJ_then ?_
    refine CJ_seq ?_
    refine CJ_regDA mix (by kernel_rfl) (fun _ _ _ _ _ h => h) _ _ (fun _ h => h) (fun _ h => h) [⟨11, 6, 24, #[.int .u64 0, .int .u64 0]⟩, ⟨12, 7, 24, #[.int .u64 0, .int .u64 0]⟩] 13 rfl (And.intro ⟨_, _, _, _, rfl, zer_24, rfl⟩ (And.intro ⟨_, _, _, _, rfl, zer_24, rfl⟩ (trivial))) rfl rfl ?_
    refine AA_y 0 rfl (by kernel_rfl) rfl rfl rfl (YJ_ixArr rfl rfl arrt_36 (by omega) (by omega) rfl) ?_
    first | refine AA_y 1 rfl (by kernel_rfl) rfl rfl rfl (YJ_loadL rfl tyi_3 (by repeat first | exact .head _ | apply List.Mem.tail) rfl) ?_ | refine AA_y 1 rfl (by kernel_rfl) rfl rfl rfl (YJ_loadFact rfl tyi_3 (by repeat first | exact .head _ | apply List.Mem.tail) rfl) ?_
    refine AA_y 2 rfl (by kernel_rfl) rfl rfl rfl (YJ_ixArr rfl rfl arrt_36 (by omega) (by omega) rfl) ?_
    first | refine AA_y 3 rfl (by kernel_rfl) rfl rfl rfl (YJ_loadL rfl tyi_3 (by repeat first | exact .head _ | apply List.Mem.tail) rfl) ?_ | refine AA_y 3 rfl (by kernel_rfl) rfl rfl rfl (YJ_loadFact rfl tyi_3 (by repeat first | exact .head _ | apply List.Mem.tail) rfl) ?_
    refine AA_y 5 rfl (by kernel_rfl) rfl rfl rfl (YJ_ixArr rfl rfl arrt_36 (by omega) (by omega) rfl) ?_
    first | refine AA_y 6 rfl (by kernel_rfl) rfl rfl rfl (YJ_loadL rfl tyi_3 (by repeat first | exact .head _ | apply List.Mem.tail) rfl) ?_ | refine AA_y 6 rfl (by kernel_rfl) rfl rfl rfl (YJ_loadFact rfl tyi_3 (by repeat first | exact .head _ | apply List.Mem.tail) rfl) ?_
    refine AA_y 7 rfl (by kernel_rfl) rfl rfl rfl (YJ_neg rfl rfl) ?_
    refine AA_val (v := .int .i64 (-r)) (congrArg (Value.int .i64) (by rw [IntKind.wrap_i64]; unfold M32 at hr; omega)) ?_
    refine AA_y 8 rfl (by kernel_rfl) rfl rfl rfl (YJ_ixArr rfl rfl arrt_36 (by omega) (by omega) rfl) ?_
    first | refine AA_y 9 rfl (by kernel_rfl) rfl rfl rfl (YJ_loadL rfl tyi_3 (by repeat first | exact .head _ | apply List.Mem.tail) rfl) ?_ | refine AA_y 9 rfl (by kernel_rfl) rfl rfl rfl (YJ_loadFact rfl tyi_3 (by repeat first | exact .head _ | apply List.Mem.tail) rfl) ?_
    refine AA_callX 4 rfl (by kernel_rfl) rfl rfl rfl rfl rfl rfl rfl (wmul_c hp.i hq.i) (AllIn.sub (by first | exact trivial | exact And.intro (by repeat first | exact .head _ | apply List.Mem.tail) trivial | exact And.intro (by repeat first | exact .head _ | apply List.Mem.tail) (And.intro (by repeat first | exact .head _ | apply List.Mem.tail) trivial))) ?_
    rintro ⟨hix, lox⟩ x
    dsimp only [wvP, List.cons_append, List.nil_append] at x ⊢
    refine AA_callX 10 rfl (by kernel_rfl) rfl rfl rfl rfl rfl rfl rfl (wmul_c hr.n hs.i) (AllIn.sub (by first | exact trivial | exact And.intro (by repeat first | exact .head _ | apply List.Mem.tail) trivial | exact And.intro (by repeat first | exact .head _ | apply List.Mem.tail) (And.intro (by repeat first | exact .head _ | apply List.Mem.tail) trivial))) ?_
    rintro ⟨hiy, loy⟩ y
    dsimp only [wvP, List.cons_append, List.nil_append] at y ⊢
    refine AA_end (by kernel_rfl) rfl ?_
    intro bs hbs
    obtain ⟨b2, b3, rfl⟩ := len_2 hbs
    clear hbs
    show AJ _ _ _ _ _ _ _ ((6, .pointer (some ⟨b2, 0, none⟩)) :: (7, .pointer (some ⟨b3, 0, none⟩)) :: _) (cellsR b2 _ _ :: cellsR b3 _ _ :: _) _
    refine AJ_store (cs' := #[_, _]) (μ' := [_, _, _]) 13 0 rfl (by kernel_rfl) rfl rfl rfl rfl tyi_24 rfl (Nat.le_of_ble_eq_true rfl) rfl rfl rfl (fun _ => AllIn.sub (And.intro (by repeat first | exact .head _ | apply List.Mem.tail) (trivial))) ?_
    refine AJ_store (cs' := #[_, _]) (μ' := [_, _, _]) 14 1 rfl (by kernel_rfl) rfl rfl rfl rfl tyi_24 rfl (Nat.le_of_ble_eq_true rfl) rfl rfl rfl (fun _ => AllIn.sub (And.intro (by repeat first | exact .head _ | apply List.Mem.tail) (trivial))) ?_
    refine AJ_done (by kernel_rfl) ?_
    refine QJ_then ?_
    refine CJ_seq ?_
    refine CJ_reg ?_
    first | refine LJ_y rfl rfl (YJ_loadN (vs := [_, _]) rfl tyi_24 (by repeat first | exact .head _ | apply List.Mem.tail) rfl rfl) ?_ | refine LJ_y rfl rfl (YJ_loadFactN (vs := [_, _]) rfl tyi_24 (by repeat first | exact .head _ | apply List.Mem.tail) rfl rfl) ?_
    first | refine LJ_y rfl rfl (YJ_loadN (vs := [_, _]) rfl tyi_24 (by repeat first | exact .head _ | apply List.Mem.tail) rfl rfl) ?_ | refine LJ_y rfl rfl (YJ_loadFactN (vs := [_, _]) rfl tyi_24 (by repeat first | exact .head _ | apply List.Mem.tail) rfl rfl) ?_
    refine LJ_callX rfl rfl rfl rfl rfl (wadd_c x y rX rY) (AllIn.sub (by first | exact trivial | exact And.intro (by repeat first | exact .head _ | apply List.Mem.tail) trivial | exact And.intro (by repeat first | exact .head _ | apply List.Mem.tail) (And.intro (by repeat first | exact .head _ | apply List.Mem.tail) trivial))) ?_
    rintro ⟨hiv, lov⟩ v
    dsimp only [wvP, List.cons_append, List.nil_append] at v ⊢
    rw [if_pos rS] at v
    rw [decide_eq_true rS]
    refine LJ_y rfl rfl (YJ_move rfl) ?_
    refine LJ_y rfl rfl (YJ_extract rfl rfl) ?_
    refine LJ_y rfl rfl (YJ_extract rfl rfl) ?_
    refine LJ_alloc (cs := #[_, _]) rfl rfl zer_24 rfl ?_
    intro b4
    refine LJ_store (cs' := #[_, _]) (μ' := [_, _, _, _]) 0 rfl rfl rfl rfl tyi_24 rfl (Nat.le_of_ble_eq_true rfl) rfl rfl rfl ?_
    refine LJ_y rfl rfl (YJ_assign rfl) ?_
    refine LJ_nil ?_
    refine QJ_then ?_
    refine CJ_seq ?_
    refine CJ_reg ?_
    first | refine LJ_y rfl rfl (YJ_loadN (vs := [_, _]) rfl tyi_24 (by repeat first | exact .head _ | apply List.Mem.tail) rfl rfl) ?_ | refine LJ_y rfl rfl (YJ_loadFactN (vs := [_, _]) rfl tyi_24 (by repeat first | exact .head _ | apply List.Mem.tail) rfl rfl) ?_
    first | refine LJ_y rfl rfl (YJ_loadN (vs := [_, _]) rfl tyi_24 (by repeat first | exact .head _ | apply List.Mem.tail) rfl rfl) ?_ | refine LJ_y rfl rfl (YJ_loadFactN (vs := [_, _]) rfl tyi_24 (by repeat first | exact .head _ | apply List.Mem.tail) rfl rfl) ?_
    refine LJ_callX rfl rfl rfl rfl rfl (wsub_c v y rS rY) (AllIn.sub (by first | exact trivial | exact And.intro (by repeat first | exact .head _ | apply List.Mem.tail) trivial | exact And.intro (by repeat first | exact .head _ | apply List.Mem.tail) (And.intro (by repeat first | exact .head _ | apply List.Mem.tail) trivial))) ?_
    rw [show p * q + -r * s - -r * s = p * q by omega]
    rintro ⟨hig, log⟩ g
    dsimp only [wvP, List.cons_append, List.nil_append] at g ⊢
    rw [if_pos rX] at g
    rw [decide_eq_true rX]
    refine LJ_y rfl rfl (YJ_move rfl) ?_
    refine LJ_y rfl rfl (YJ_extract rfl rfl) ?_
    refine LJ_y rfl rfl (YJ_extract rfl rfl) ?_
    refine LJ_alloc (cs := #[_, _]) rfl rfl zer_24 rfl ?_
    intro b5
    refine LJ_store (cs' := #[_, _]) (μ' := [_, _, _, _, _]) 0 rfl rfl rfl rfl tyi_24 rfl (Nat.le_of_ble_eq_true rfl) rfl rfl rfl ?_
    refine LJ_y rfl rfl (YJ_assign rfl) ?_
    refine LJ_nil ?_
    refine QJ_then ?_
    refine CJ_seq ?_
    refine CJ_seq ?_
    refine CJ_reg ?_
    refine LJ_y rfl rfl (YJ_move rfl) ?_
    refine LJ_y rfl rfl (YJ_not rfl) ?_
    refine LJ_y rfl rfl (YJ_move rfl) ?_
    refine LJ_bool (c := false) rfl ?_
    refine LJ_y rfl rfl (YJ_move rfl) ?_
    refine LJ_y rfl rfl (YJ_not rfl) ?_
    refine LJ_y rfl rfl (YJ_pickF rfl rfl) ?_
    refine LJ_y rfl rfl (YJ_move rfl) ?_
    refine LJ_bool (c := false) rfl ?_
    first | refine LJ_y rfl rfl (YJ_loadN (vs := [_, _]) rfl tyi_24 (by repeat first | exact .head _ | apply List.Mem.tail) rfl rfl) ?_ | refine LJ_y rfl rfl (YJ_loadFactN (vs := [_, _]) rfl tyi_24 (by repeat first | exact .head _ | apply List.Mem.tail) rfl rfl) ?_
    first | refine LJ_y rfl rfl (YJ_loadN (vs := [_, _]) rfl tyi_24 (by repeat first | exact .head _ | apply List.Mem.tail) rfl rfl) ?_ | refine LJ_y rfl rfl (YJ_loadFactN (vs := [_, _]) rfl tyi_24 (by repeat first | exact .head _ | apply List.Mem.tail) rfl rfl) ?_
    refine LJ_y rfl rfl (YJ_eqs rfl rfl (fun _ => eqs_neq_24 ..)) ?_
    refine LJ_val (v := .bool false) (congrArg Value.bool (by rw [isW_eqb g x]; rfl)) ?_
    refine LJ_y rfl rfl (YJ_pickF rfl rfl) ?_
    refine LJ_nil ?_
    refine QJ_then ?_
    refine CJ_condF rfl ?_
    refine CJ_skip ?_
    refine QJ_then ?_
    refine CJ_seq ?_
    refine CJ_reg ?_
    first | refine LJ_y rfl rfl (YJ_loadN (vs := [_, _]) rfl tyi_24 (by repeat first | exact .head _ | apply List.Mem.tail) rfl rfl) ?_ | refine LJ_y rfl rfl (YJ_loadFactN (vs := [_, _]) rfl tyi_24 (by repeat first | exact .head _ | apply List.Mem.tail) rfl rfl) ?_
    refine LJ_y rfl rfl (YJ_move rfl) ?_
    refine LJ_callX rfl rfl rfl rfl rfl (wtimes_c v rS iN) (AllIn.sub (by first | exact trivial | exact And.intro (by repeat first | exact .head _ | apply List.Mem.tail) trivial | exact And.intro (by repeat first | exact .head _ | apply List.Mem.tail) (And.intro (by repeat first | exact .head _ | apply List.Mem.tail) trivial))) ?_
    rw [hSN]
    rintro ⟨hixt, loxt⟩ xt
    dsimp only [wvP, List.cons_append, List.nil_append] at xt ⊢
    rw [if_pos rSN] at xt
    rw [decide_eq_true rSN]
    refine LJ_y rfl rfl (YJ_move rfl) ?_
    refine LJ_y rfl rfl (YJ_extract rfl rfl) ?_
    refine LJ_y rfl rfl (YJ_extract rfl rfl) ?_
    refine LJ_alloc (cs := #[_, _]) rfl rfl zer_24 rfl ?_
    intro b6
    refine LJ_store (cs' := #[_, _]) (μ' := [_, _, _, _, _, _]) 0 rfl rfl rfl rfl tyi_24 rfl (Nat.le_of_ble_eq_true rfl) rfl rfl rfl ?_
    refine LJ_y rfl rfl (YJ_assign rfl) ?_
    refine LJ_nil ?_
    refine QJ_then ?_
    refine CJ_seq ?_
    refine CJ_reg ?_
    first | refine LJ_y rfl rfl (YJ_loadN (vs := [_, _]) rfl tyi_24 (by repeat first | exact .head _ | apply List.Mem.tail) rfl rfl) ?_ | refine LJ_y rfl rfl (YJ_loadFactN (vs := [_, _]) rfl tyi_24 (by repeat first | exact .head _ | apply List.Mem.tail) rfl rfl) ?_
    refine LJ_y rfl rfl (YJ_move rfl) ?_
    refine LJ_callX rfl rfl rfl rfl rfl (wtimes_c x rX iN) (AllIn.sub (by first | exact trivial | exact And.intro (by repeat first | exact .head _ | apply List.Mem.tail) trivial | exact And.intro (by repeat first | exact .head _ | apply List.Mem.tail) (And.intro (by repeat first | exact .head _ | apply List.Mem.tail) trivial))) ?_
    rintro ⟨hiyt, loyt⟩ yt
    dsimp only [wvP, List.cons_append, List.nil_append] at yt ⊢
    rw [if_pos rXN] at yt
    rw [decide_eq_true rXN]
    refine LJ_y rfl rfl (YJ_move rfl) ?_
    refine LJ_y rfl rfl (YJ_extract rfl rfl) ?_
    refine LJ_y rfl rfl (YJ_extract rfl rfl) ?_
    refine LJ_alloc (cs := #[_, _]) rfl rfl zer_24 rfl ?_
    intro b7
    refine LJ_store (cs' := #[_, _]) (μ' := [_, _, _, _, _, _, _]) 0 rfl rfl rfl rfl tyi_24 rfl (Nat.le_of_ble_eq_true rfl) rfl rfl rfl ?_
    refine LJ_y rfl rfl (YJ_assign rfl) ?_
    refine LJ_nil ?_
    refine QJ_then ?_
    refine CJ_seq ?_
    refine CJ_reg ?_
    first | refine LJ_y rfl rfl (YJ_loadN (vs := [_, _]) rfl tyi_24 (by repeat first | exact .head _ | apply List.Mem.tail) rfl rfl) ?_ | refine LJ_y rfl rfl (YJ_loadFactN (vs := [_, _]) rfl tyi_24 (by repeat first | exact .head _ | apply List.Mem.tail) rfl rfl) ?_
    refine LJ_y rfl rfl (YJ_move rfl) ?_
    refine LJ_callX rfl rfl rfl rfl rfl (wtimes_c y rY iN) (AllIn.sub (by first | exact trivial | exact And.intro (by repeat first | exact .head _ | apply List.Mem.tail) trivial | exact And.intro (by repeat first | exact .head _ | apply List.Mem.tail) (And.intro (by repeat first | exact .head _ | apply List.Mem.tail) trivial))) ?_
    rintro ⟨hizt, lozt⟩ zt
    dsimp only [wvP, List.cons_append, List.nil_append] at zt ⊢
    rw [if_pos rYN] at zt
    rw [decide_eq_true rYN]
    refine LJ_y rfl rfl (YJ_move rfl) ?_
    refine LJ_y rfl rfl (YJ_extract rfl rfl) ?_
    refine LJ_y rfl rfl (YJ_extract rfl rfl) ?_
    refine LJ_alloc (cs := #[_, _]) rfl rfl zer_24 rfl ?_
    intro b8
    refine LJ_store (cs' := #[_, _]) (μ' := [_, _, _, _, _, _, _, _]) 0 rfl rfl rfl rfl tyi_24 rfl (Nat.le_of_ble_eq_true rfl) rfl rfl rfl ?_
    refine LJ_y rfl rfl (YJ_assign rfl) ?_
    refine LJ_nil ?_
    refine QJ_then ?_
    refine CJ_seq ?_
    refine CJ_reg ?_
    first | refine LJ_y rfl rfl (YJ_loadN (vs := [_, _]) rfl tyi_24 (by repeat first | exact .head _ | apply List.Mem.tail) rfl rfl) ?_ | refine LJ_y rfl rfl (YJ_loadFactN (vs := [_, _]) rfl tyi_24 (by repeat first | exact .head _ | apply List.Mem.tail) rfl rfl) ?_
    first | refine LJ_y rfl rfl (YJ_loadN (vs := [_, _]) rfl tyi_24 (by repeat first | exact .head _ | apply List.Mem.tail) rfl rfl) ?_ | refine LJ_y rfl rfl (YJ_loadFactN (vs := [_, _]) rfl tyi_24 (by repeat first | exact .head _ | apply List.Mem.tail) rfl rfl) ?_
    refine LJ_callX rfl rfl rfl rfl rfl (wadd_c yt zt rXN rYN) (AllIn.sub (by first | exact trivial | exact And.intro (by repeat first | exact .head _ | apply List.Mem.tail) trivial | exact And.intro (by repeat first | exact .head _ | apply List.Mem.tail) (And.intro (by repeat first | exact .head _ | apply List.Mem.tail) trivial))) ?_
    rintro ⟨hism, losm⟩ sm
    dsimp only [wvP, List.cons_append, List.nil_append] at sm ⊢
    rw [if_pos rSN] at sm
    rw [decide_eq_true rSN]
    refine LJ_y rfl rfl (YJ_move rfl) ?_
    refine LJ_y rfl rfl (YJ_extract rfl rfl) ?_
    refine LJ_y rfl rfl (YJ_extract rfl rfl) ?_
    refine LJ_alloc (cs := #[_, _]) rfl rfl zer_24 rfl ?_
    intro b9
    refine LJ_store (cs' := #[_, _]) (μ' := [_, _, _, _, _, _, _, _, _]) 0 rfl rfl rfl rfl tyi_24 rfl (Nat.le_of_ble_eq_true rfl) rfl rfl rfl ?_
    refine LJ_y rfl rfl (YJ_assign rfl) ?_
    refine LJ_nil ?_
    refine QJ_then ?_
    refine CJ_seq ?_
    refine CJ_reg ?_
    refine LJ_y rfl rfl (YJ_ixArr rfl rfl arrt_36 (by omega) (by omega) rfl) ?_
    first | refine LJ_y rfl rfl (YJ_loadL rfl tyi_3 (by repeat first | exact .head _ | apply List.Mem.tail) rfl) ?_ | refine LJ_y rfl rfl (YJ_loadFact rfl tyi_3 (by repeat first | exact .head _ | apply List.Mem.tail) rfl) ?_
    refine LJ_y rfl rfl (YJ_ixArr rfl rfl arrt_36 (by omega) (by omega) rfl) ?_
    first | refine LJ_y rfl rfl (YJ_loadL rfl tyi_3 (by repeat first | exact .head _ | apply List.Mem.tail) rfl) ?_ | refine LJ_y rfl rfl (YJ_loadFact rfl tyi_3 (by repeat first | exact .head _ | apply List.Mem.tail) rfl) ?_
    refine LJ_y rfl rfl (YJ_ixArr rfl rfl arrt_36 (by omega) (by omega) rfl) ?_
    first | refine LJ_y rfl rfl (YJ_loadL rfl tyi_3 (by repeat first | exact .head _ | apply List.Mem.tail) rfl) ?_ | refine LJ_y rfl rfl (YJ_loadFact rfl tyi_3 (by repeat first | exact .head _ | apply List.Mem.tail) rfl) ?_
    refine LJ_y rfl rfl (YJ_ixArr rfl rfl arrt_36 (by omega) (by omega) rfl) ?_
    first | refine LJ_y rfl rfl (YJ_loadL rfl tyi_3 (by repeat first | exact .head _ | apply List.Mem.tail) rfl) ?_ | refine LJ_y rfl rfl (YJ_loadFact rfl tyi_3 (by repeat first | exact .head _ | apply List.Mem.tail) rfl) ?_
    refine LJ_callX rfl rfl rfl rfl rfl (wdet_c hp.i hq.i hr.i hs.i) (AllIn.sub (by first | exact trivial | exact And.intro (by repeat first | exact .head _ | apply List.Mem.tail) trivial | exact And.intro (by repeat first | exact .head _ | apply List.Mem.tail) (And.intro (by repeat first | exact .head _ | apply List.Mem.tail) trivial))) ?_
    rw [if_pos rD]
    rintro ⟨hid1, lod1⟩ d1
    dsimp only [wvP, List.cons_append, List.nil_append] at d1 ⊢
    refine LJ_callX rfl rfl rfl rfl rfl (wtimes_c d1 rD (n := 2) (by unfold I64; omega)) (AllIn.sub (by first | exact trivial | exact And.intro (by repeat first | exact .head _ | apply List.Mem.tail) trivial | exact And.intro (by repeat first | exact .head _ | apply List.Mem.tail) (And.intro (by repeat first | exact .head _ | apply List.Mem.tail) trivial))) ?_
    rintro ⟨hitw, lotw⟩ tw
    dsimp only [wvP, List.cons_append, List.nil_append] at tw ⊢
    rw [if_pos rD2] at tw
    rw [decide_eq_true rD2]
    refine LJ_y rfl rfl (YJ_move rfl) ?_
    refine LJ_y rfl rfl (YJ_extract rfl rfl) ?_
    refine LJ_y rfl rfl (YJ_extract rfl rfl) ?_
    refine LJ_alloc (cs := #[_, _]) rfl rfl zer_24 rfl ?_
    intro b10
    refine LJ_store (cs' := #[_, _]) (μ' := [_, _, _, _, _, _, _, _, _, _]) 0 rfl rfl rfl rfl tyi_24 rfl (Nat.le_of_ble_eq_true rfl) rfl rfl rfl ?_
    refine LJ_y rfl rfl (YJ_assign rfl) ?_
    refine LJ_nil ?_
    refine QJ_then ?_
    refine CJ_seq ?_
    refine CJ_regD mix (by kernel_rfl) (fun _ _ _ _ _ h => h) _ _ (fun _ h => h) (fun _ h => h) ?_
    refine AJ_y 0 rfl (by kernel_rfl) (by kernel_rfl) rfl rfl (YJ_move rfl) ?_
    refine AJ_y 1 rfl (by kernel_rfl) (by kernel_rfl) rfl rfl (YJ_move rfl) ?_
    refine AJ_bool (c := true) rfl ?_
    first | refine AJ_y 2 rfl (by kernel_rfl) (by kernel_rfl) rfl rfl (YJ_loadN (vs := [_, _]) rfl tyi_24 (by repeat first | exact .head _ | apply List.Mem.tail) rfl rfl) ?_ | refine AJ_y 2 rfl (by kernel_rfl) (by kernel_rfl) rfl rfl (YJ_loadFactN (vs := [_, _]) rfl tyi_24 (by repeat first | exact .head _ | apply List.Mem.tail) rfl rfl) ?_
    first | refine AJ_y 3 rfl (by kernel_rfl) (by kernel_rfl) rfl rfl (YJ_loadN (vs := [_, _]) rfl tyi_24 (by repeat first | exact .head _ | apply List.Mem.tail) rfl rfl) ?_ | refine AJ_y 3 rfl (by kernel_rfl) (by kernel_rfl) rfl rfl (YJ_loadFactN (vs := [_, _]) rfl tyi_24 (by repeat first | exact .head _ | apply List.Mem.tail) rfl rfl) ?_
    refine AJ_y 4 rfl (by kernel_rfl) (by kernel_rfl) rfl rfl (YJ_eqs rfl rfl (fun _ => eqs_eql_24 ..)) ?_
    refine AJ_val (v := .bool true) (congrArg Value.bool (isW_eqb sm xt)) ?_
    refine AJ_y 5 rfl (by kernel_rfl) (by kernel_rfl) rfl rfl (YJ_pickT rfl rfl) ?_
    refine AJ_y 6 rfl (by kernel_rfl) (by kernel_rfl) rfl rfl (YJ_move rfl) ?_
    refine AJ_bool (c := true) rfl ?_
    first | refine AJ_y 7 rfl (by kernel_rfl) (by kernel_rfl) rfl rfl (YJ_loadN (vs := [_, _]) rfl tyi_24 (by repeat first | exact .head _ | apply List.Mem.tail) rfl rfl) ?_ | refine AJ_y 7 rfl (by kernel_rfl) (by kernel_rfl) rfl rfl (YJ_loadFactN (vs := [_, _]) rfl tyi_24 (by repeat first | exact .head _ | apply List.Mem.tail) rfl rfl) ?_
    refine AJ_y 8 rfl (by kernel_rfl) (by kernel_rfl) rfl rfl (YJ_ixArr rfl rfl arrt_36 (by omega) (by omega) rfl) ?_
    first | refine AJ_y 9 rfl (by kernel_rfl) (by kernel_rfl) rfl rfl (YJ_loadL rfl tyi_3 (by repeat first | exact .head _ | apply List.Mem.tail) rfl) ?_ | refine AJ_y 9 rfl (by kernel_rfl) (by kernel_rfl) rfl rfl (YJ_loadFact rfl tyi_3 (by repeat first | exact .head _ | apply List.Mem.tail) rfl) ?_
    refine AJ_y 10 rfl (by kernel_rfl) (by kernel_rfl) rfl rfl (YJ_bin rfl rfl (iop_mul (hp.k 2 (by omega) (by omega)))) ?_
    refine AJ_y 11 rfl (by kernel_rfl) (by kernel_rfl) rfl rfl (YJ_ixArr rfl rfl arrt_36 (by omega) (by omega) rfl) ?_
    first | refine AJ_y 12 rfl (by kernel_rfl) (by kernel_rfl) rfl rfl (YJ_loadL rfl tyi_3 (by repeat first | exact .head _ | apply List.Mem.tail) rfl) ?_ | refine AJ_y 12 rfl (by kernel_rfl) (by kernel_rfl) rfl rfl (YJ_loadFact rfl tyi_3 (by repeat first | exact .head _ | apply List.Mem.tail) rfl) ?_
    refine AJ_y 13 rfl (by kernel_rfl) (by kernel_rfl) rfl rfl (YJ_bin rfl rfl (iop_mul (hq.k 2 (by omega) (by omega)))) ?_
    refine AJ_y 14 rfl (by kernel_rfl) (by kernel_rfl) rfl rfl (YJ_ixArr rfl rfl arrt_36 (by omega) (by omega) rfl) ?_
    first | refine AJ_y 15 rfl (by kernel_rfl) (by kernel_rfl) rfl rfl (YJ_loadL rfl tyi_3 (by repeat first | exact .head _ | apply List.Mem.tail) rfl) ?_ | refine AJ_y 15 rfl (by kernel_rfl) (by kernel_rfl) rfl rfl (YJ_loadFact rfl tyi_3 (by repeat first | exact .head _ | apply List.Mem.tail) rfl) ?_
    refine AJ_y 16 rfl (by kernel_rfl) (by kernel_rfl) rfl rfl (YJ_ixArr rfl rfl arrt_36 (by omega) (by omega) rfl) ?_
    first | refine AJ_y 17 rfl (by kernel_rfl) (by kernel_rfl) rfl rfl (YJ_loadL rfl tyi_3 (by repeat first | exact .head _ | apply List.Mem.tail) rfl) ?_ | refine AJ_y 17 rfl (by kernel_rfl) (by kernel_rfl) rfl rfl (YJ_loadFact rfl tyi_3 (by repeat first | exact .head _ | apply List.Mem.tail) rfl) ?_
    refine AJ_callX 18 rfl (by kernel_rfl) rfl rfl rfl rfl rfl (wdet_c (hp.k 2 (by omega) (by omega)) (hq.k 2 (by omega) (by omega)) hr.i hs.i) (AllIn.sub (by first | exact trivial | exact And.intro (by repeat first | exact .head _ | apply List.Mem.tail) trivial | exact And.intro (by repeat first | exact .head _ | apply List.Mem.tail) (And.intro (by repeat first | exact .head _ | apply List.Mem.tail) trivial))) ?_
    rw [det_two, if_pos rD2]
    rintro ⟨hid2, lod2⟩ d2
    dsimp only [wvP, List.cons_append, List.nil_append] at d2 ⊢
    refine AJ_y 19 rfl (by kernel_rfl) (by kernel_rfl) rfl rfl (YJ_eqs rfl rfl (fun _ => eqs_eql_24 ..)) ?_
    refine AJ_val (v := .bool true) (congrArg Value.bool (isW_eqb tw d2)) ?_
    refine AJ_y 20 rfl (by kernel_rfl) (by kernel_rfl) rfl rfl (YJ_pickT rfl rfl) ?_
    refine AJ_y 21 rfl (by kernel_rfl) (by kernel_rfl) rfl rfl (YJ_move rfl) ?_
    refine AJ_bool (c := true) rfl ?_
    refine AJ_y 22 rfl (by kernel_rfl) (by kernel_rfl) rfl rfl (YJ_ixArr rfl rfl arrt_36 (by omega) (by omega) rfl) ?_
    first | refine AJ_y 23 rfl (by kernel_rfl) (by kernel_rfl) rfl rfl (YJ_loadL rfl tyi_3 (by repeat first | exact .head _ | apply List.Mem.tail) rfl) ?_ | refine AJ_y 23 rfl (by kernel_rfl) (by kernel_rfl) rfl rfl (YJ_loadFact rfl tyi_3 (by repeat first | exact .head _ | apply List.Mem.tail) rfl) ?_
    refine AJ_y 24 rfl (by kernel_rfl) (by kernel_rfl) rfl rfl (YJ_ixArr rfl rfl arrt_36 (by omega) (by omega) rfl) ?_
    first | refine AJ_y 25 rfl (by kernel_rfl) (by kernel_rfl) rfl rfl (YJ_loadL rfl tyi_3 (by repeat first | exact .head _ | apply List.Mem.tail) rfl) ?_ | refine AJ_y 25 rfl (by kernel_rfl) (by kernel_rfl) rfl rfl (YJ_loadFact rfl tyi_3 (by repeat first | exact .head _ | apply List.Mem.tail) rfl) ?_
    refine AJ_y 26 rfl (by kernel_rfl) (by kernel_rfl) rfl rfl (YJ_ixArr rfl rfl arrt_36 (by omega) (by omega) rfl) ?_
    first | refine AJ_y 27 rfl (by kernel_rfl) (by kernel_rfl) rfl rfl (YJ_loadL rfl tyi_3 (by repeat first | exact .head _ | apply List.Mem.tail) rfl) ?_ | refine AJ_y 27 rfl (by kernel_rfl) (by kernel_rfl) rfl rfl (YJ_loadFact rfl tyi_3 (by repeat first | exact .head _ | apply List.Mem.tail) rfl) ?_
    refine AJ_y 28 rfl (by kernel_rfl) (by kernel_rfl) rfl rfl (YJ_bin rfl rfl (iop_mul (hp.k 3 (by omega) (by omega)))) ?_
    refine AJ_y 29 rfl (by kernel_rfl) (by kernel_rfl) rfl rfl (YJ_ixArr rfl rfl arrt_36 (by omega) (by omega) rfl) ?_
    first | refine AJ_y 30 rfl (by kernel_rfl) (by kernel_rfl) rfl rfl (YJ_loadL rfl tyi_3 (by repeat first | exact .head _ | apply List.Mem.tail) rfl) ?_ | refine AJ_y 30 rfl (by kernel_rfl) (by kernel_rfl) rfl rfl (YJ_loadFact rfl tyi_3 (by repeat first | exact .head _ | apply List.Mem.tail) rfl) ?_
    refine AJ_y 31 rfl (by kernel_rfl) (by kernel_rfl) rfl rfl (YJ_bin rfl rfl (iop_mul (hq.k 3 (by omega) (by omega)))) ?_
    refine AJ_callX 32 rfl (by kernel_rfl) rfl rfl rfl rfl rfl (wdet_c hp.i hq.i (hp.k 3 (by omega) (by omega)) (hq.k 3 (by omega) (by omega))) (AllIn.sub (by first | exact trivial | exact And.intro (by repeat first | exact .head _ | apply List.Mem.tail) trivial | exact And.intro (by repeat first | exact .head _ | apply List.Mem.tail) (And.intro (by repeat first | exact .head _ | apply List.Mem.tail) trivial))) ?_
    rw [det_three, if_pos (by decide)]
    rintro ⟨hid3, lod3⟩ d3
    dsimp only [wvP, List.cons_append, List.nil_append] at d3 ⊢
    refine AJ_call0 33 rfl (by kernel_rfl) rfl rfl rfl rfl rfl (wsign_c d3 (by decide)) (AllIn.sub (by first | exact trivial | exact And.intro (by repeat first | exact .head _ | apply List.Mem.tail) trivial | exact And.intro (by repeat first | exact .head _ | apply List.Mem.tail) (And.intro (by repeat first | exact .head _ | apply List.Mem.tail) trivial))) ?_
    refine AJ_y 34 rfl (by kernel_rfl) (by kernel_rfl) rfl rfl (YJ_bin rfl rfl rfl) ?_
    refine AJ_val (v := .bool true) (rfl) ?_
    refine AJ_y 35 rfl (by kernel_rfl) (by kernel_rfl) rfl rfl (YJ_pickT rfl rfl) ?_
    refine AJ_y 36 rfl (by kernel_rfl) (by kernel_rfl) rfl rfl (YJ_assign rfl) ?_
    refine AJ_done (by kernel_rfl) ?_
    refine QJ_then ?_
    refine CJ_ret ?_
    refine QJ_fin (.inl rfl) (μ' := []) (μr := _) (φ' := []) (res_tmp rfl rfl) (List.Perm.refl _) (fun _ h => nomatch h) ?_
    exact ⟨rfl, rfl, rfl⟩

end Go.Proofs.Ytggbdfnoehienaa
