/- The walks of the statements WideAdds and WideMuls. -/
import Derived.Test.YtbanlhlggkdanaaN3
set_option linter.unusedSimpArgs false
set_option linter.unusedVariables false
namespace Go.Proofs.Ytbanlhlggkdanaa
open Go.RowKit




theorem dl_add2 {a b : Int} (ra : R128 a) (rb : R128 b) : dl (a + b) ≤ 40000 := Nat.le_trans (dl_add (dl_r128 ra) (dl_r128 rb)) (by decide)
theorem dl_sub2 {a b : Int} (ra : R128 a) (rb : R128 b) : dl (a - b) ≤ 40000 := Nat.le_trans (dl_sub (dl_r128 ra) (dl_r128 rb)) (by decide)
theorem dl_neg2 {a : Int} (ra : R128 a) : dl (-a) ≤ 40000 := by rw [dl_neg]; exact dl_big ra
theorem dl_mul2 {a b : Int} (ra : R128 a) (rb : R128 b) : dl (a * b) ≤ 40000 := Nat.le_trans (dl_mul (dl_r128 ra) (dl_r128 rb)) (by decide)
theorem I64.r {a : Int} (h : I64 a) : R128 a := by unfold I64 at h; unfold R128; omega


end Go.Proofs.Ytbanlhlggkdanaa
