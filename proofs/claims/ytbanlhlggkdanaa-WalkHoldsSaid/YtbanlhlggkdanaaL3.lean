/- The walk of the statement WideDets. -/
import Derived.Test.YtbanlhlggkdanaaL2
import Derived.Test.YtbanlhlggkdanaaArr
set_option linter.unusedSimpArgs false
set_option linter.unusedVariables false
namespace Go.Proofs.Ytbanlhlggkdanaa
open Go.RowKit

theorem tyi_3 : tyi Try.prog 3 = some (false, 1) := by kernel_rfl


theorem all_step {p : Nat → Prop} {i : Nat} (h : ∀ j, j < i → p j) (hi : p i) : ∀ j, j < i + 1 → p j := fun j hj => by
  rcases Nat.lt_or_eq_of_le (Nat.le_of_lt_succ hj) with h' | h'
  · exact h j h'
  · subst h'; exact hi
def T62 (x : Int) : Prop := -4611686018427387904 ≤ x ∧ x ≤ 4611686018427387904
theorem T62.i {x : Int} (h : T62 x) : I64 x := by unfold T62 at h; unfold I64; omega
theorem mul_T62 {x y : Int} (h : T62 x) (h' : T62 y) : -21267647932558653966460912964485513216 ≤ x * y ∧ x * y ≤ 21267647932558653966460912964485513216 := by
  have key : (x * y).natAbs ≤ 21267647932558653966460912964485513216 := by
    rw [Int.natAbs_mul]
    have h1 : x.natAbs ≤ 4611686018427387904 := by unfold T62 at h; omega
    have h2 : y.natAbs ≤ 4611686018427387904 := by unfold T62 at h'; omega
    exact Nat.le_trans (Nat.mul_le_mul h1 h2) (by decide)
  omega
theorem det_r {a b c d : Int} (ha : T62 a) (hb : T62 b) (hc : T62 c) (hd : T62 d) : R128 (det a b c d) := by
  have h1 := mul_T62 ha hd
  have h2 := mul_T62 hb hc
  unfold R128 det; omega
theorem det_turn (a b c d : Int) : -(det c d a b) = a * d - b * c := by unfold det; rw [Int.mul_comm c b, Int.mul_comm d a]; omega
theorem ix4 {a b c d : Int} {i : Nat} (h : i < 4) : lget [Value.int .i64 a, .int .i64 b, .int .i64 c, .int .i64 d] (((i : Int)).toNat * 1) = some (.int .i64 ([a, b, c, d].getD i 0)) :=
  Iv_get (l := [a, b, c, d]) (k := i) (by omega) h
theorem mul_r62 {x y : Int} (h : T62 x) (h' : T62 y) : R128 (x * y) := by
  have := mul_T62 h h'
  unfold R128; omega


end Go.Proofs.Ytbanlhlggkdanaa
