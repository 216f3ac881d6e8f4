/- The walks of the functions of mag: right, Of, Len. -/
import Derived.Test.YtbanlhlggkdanaaRows
import Derived.Test.YtbanlhlggkdanaaW1
import Derived.Test.YtbanlhlggkdanaaDig
set_option linter.unusedSimpArgs false
set_option linter.unusedVariables false
namespace Go.Proofs.Ytbanlhlggkdanaa
open Go.RowKit

theorem ent_98 : Enter Try.prog 98 = true := by kernel_rfl
theorem ulen_98 : ((#[98] : Array TypeId)[0]?).bind Try.prog.underlying = some (.slice (Try.prog.elem ((#[98] : Array TypeId).getD 0 0))) := by kernel_rfl
theorem elt_98 : elt Try.prog 98 = some (108, 1, 8) := by kernel_rfl


/-- a slice of words that is a fact -/
def dF (A : Option Addr) (v : Nat) : Res := sliceR 1 A (digits v).length (U (digits v))
abbrev lF (A : Option Addr) (l : List Nat) : Res := sliceR 1 A l.length (U l)


set_option maxRecDepth 100000 in
set_option maxHeartbeats 1000000 in
theorem right_c {A : Option Addr} {n c : Nat} {l : List Nat} (hn : n = l.length) (hw : W64 l) (hl : l.length ≤ 1000000) (hc : l.length ≤ c) : Tri Try.prog 98 [.slice A n c] [] [lF A l] (RetF (.slice A (digits (val l)).length c) [dF A (val l)]) := by
  refine Tri_of (N := 21) Try.func98 rfl ent_98 rfl rfl ?_
  intro w0 S0 T0
  show CJ _ _ _ [(0, _)] _ _
  subst hn
  refine CJ_seq ?_
  refine CJ_reg ?_
  refine LJ_y rfl rfl (YJ_assign rfl) ?_
  refine LJ_nil ?_
  refine QJ_then ?_
  refine CJ_seq ?_
  refine CJ_block ?_
  refine CJ_loop (F := fun (k : Nat) => ⟨[(0, .slice A k c)], [], [lF A l]⟩) (I := fun (k : Nat) => k ≤ l.length ∧ val (l.take k) = val l) (m := fun (k : Nat) => k) l.length (μr := []) ⟨Nat.le_refl _, val_take_all (Nat.le_refl _)⟩ (And.intro rfl (trivial)) (List.Perm.refl _) (fun _ h => h) ?_
  rintro k ⟨hk, hv⟩
  show CJ _ _ _ [(0, _)] [] [lF A l]
  refine CJ_seq ?_
  refine CJ_seq ?_
  refine CJ_reg ?_
  refine LJ_y rfl rfl (YJ_move rfl) ?_
  refine LJ_y rfl rfl (YJ_len rfl ulen_98 rfl) ?_
  refine LJ_y rfl rfl (YJ_bin rfl rfl rfl) ?_
  refine LJ_y rfl rfl (YJ_move rfl) ?_
  refine LJ_boolC (fun h6 => ?_) (fun h6 => ?_)
  · try simp only [decide_eq_true_eq, decide_eq_false_iff_not, Bool.not_eq_true', Bool.not_eq_false', Bool.and_eq_true, Bool.and_eq_false_iff, beq_iff_eq, bne_iff_ne, beq_eq_false_iff_ne, bne_eq_false_iff_eq, ne_eq, decide_eq_decide] at h6
    refine LJ_y rfl rfl (YJ_move rfl) ?_
    refine LJ_y rfl rfl (YJ_move rfl) ?_
    refine LJ_y rfl rfl (YJ_len rfl ulen_98 rfl) ?_
    first | refine LJ_y rfl rfl (YJ_bin rfl rfl (iop_sub (by omega))) ?_ | refine LJ_y rfl rfl (YJ_bin rfl rfl rfl) ?_
    first | refine LJ_y rfl rfl (YJ_ixOwn rfl rfl elt_98 (by omega) (by omega)) ?_ | refine LJ_y rfl rfl (YJ_ixFact rfl rfl elt_98 (by repeat first | exact .head _ | apply List.Mem.tail) (by decide) (by omega) (by omega) (by omega)) ?_
    refine LJ_y rfl rfl (YJ_loadFact rfl tyi_108 (by repeat first | exact .head _ | apply List.Mem.tail) (U_get (by omega))) ?_
    refine LJ_y rfl rfl (YJ_bin rfl rfl rfl) ?_
    refine LJ_y rfl rfl (YJ_pickT rfl rfl) ?_
    refine LJ_nil ?_
    refine QJ_then ?_
    refine CJ_cond rfl (fun h14 => ?_) (fun h14 => ?_)
    · try simp only [decide_eq_true_eq, decide_eq_false_iff_not, Bool.not_eq_true', Bool.not_eq_false', Bool.and_eq_true, Bool.and_eq_false_iff, beq_iff_eq, bne_iff_ne, beq_eq_false_iff_ne, bne_eq_false_iff_eq, ne_eq, decide_eq_decide] at h14
      refine CJ_skip ?_
      refine QJ_then ?_
      refine CJ_block ?_
      refine CJ_reg ?_
      refine LJ_y rfl rfl (YJ_move rfl) ?_
      refine LJ_y rfl rfl (YJ_move rfl) ?_
      refine LJ_y rfl rfl (YJ_len rfl ulen_98 rfl) ?_
      first | refine LJ_y rfl rfl (YJ_bin rfl rfl (iop_sub (by omega))) ?_ | refine LJ_y rfl rfl (YJ_bin rfl rfl rfl) ?_
      refine LJ_y rfl rfl (YJ_sliceH (m := (k - 1)) rfl rfl elt_98 (by omega) (by omega)) ?_
      refine LJ_y rfl rfl (YJ_assign rfl) ?_
      refine LJ_nil ?_
      refine QJ_in_normal ?_
      refine QJ_round (F := fun (k : Nat) => ⟨[(0, .slice A k c)], [], [lF A l]⟩) (I := fun (k : Nat) => k ≤ l.length ∧ val (l.take k) = val l) (m := fun (k : Nat) => k) (i := k) (k - 1) (μr := []) ⟨by omega, by have h1 := val_take_succ (l := l) (k := k - 1) (by omega); rw [show k - 1 + 1 = k by omega, hv] at h1; rw [show (↑k - 1 : Int).toNat * 1 = k - 1 by omega] at h14; rw [h1, show l.getD (k - 1) 0 = 0 by omega]; simp⟩ (by omega) (And.intro rfl trivial) (List.Perm.refl _) (fun _ h => h)
    · try simp only [decide_eq_true_eq, decide_eq_false_iff_not, Bool.not_eq_true', Bool.not_eq_false', Bool.and_eq_true, Bool.and_eq_false_iff, beq_iff_eq, bne_iff_ne, beq_eq_false_iff_ne, bne_eq_false_iff_eq, ne_eq, decide_eq_decide] at h14
      refine CJ_exit ?_
      refine QJ_then_exit ?_
      refine QJ_then_exit ?_
      refine QJ_in_exit ?_
      refine QJ_then ?_
      refine CJ_seq ?_
      refine CJ_reg ?_
      refine LJ_y rfl rfl (YJ_move rfl) ?_
      refine LJ_y rfl rfl (YJ_assign rfl) ?_
      refine LJ_nil ?_
      refine QJ_then ?_
      refine CJ_ret ?_
      have e : digits (val l) = l.take k := digits_take hw hk hv (.inr (by rw [show (↑k - 1 : Int).toNat * 1 = k - 1 by omega] at h14; omega))
      have hlen : (digits (val l)).length = k := by rw [e]; simp; omega
      refine QJ_addF (r' := sliceR 1 A k (U (l.take k))) (.head _) (fun w S h => by rw [← U_take]; exact sliceR_take (by omega) w S h) ?_
      refine QJ_fin (.inl rfl) (μ' := []) (μr := _) (φ' := [sliceR 1 A k (U (l.take k))]) (res_tmp rfl rfl) (List.Perm.refl _) (AllIn.sub (And.intro (.head _) trivial)) ?_
      exact ⟨by rw [hlen], rfl, by unfold dF; rw [hlen, e]⟩
  · try simp only [decide_eq_true_eq, decide_eq_false_iff_not, Bool.not_eq_true', Bool.not_eq_false', Bool.and_eq_true, Bool.and_eq_false_iff, beq_iff_eq, bne_iff_ne, beq_eq_false_iff_ne, bne_eq_false_iff_eq, ne_eq, decide_eq_decide] at h6
    refine LJ_skip rfl rfl ?_
    refine LJ_skip rfl rfl ?_
    refine LJ_skip rfl rfl ?_
    refine LJ_skip rfl rfl ?_
    refine LJ_skip rfl rfl ?_
    refine LJ_skip rfl rfl ?_
    refine LJ_skip rfl rfl ?_
    refine LJ_y rfl rfl (YJ_pickF rfl rfl) ?_
    refine LJ_nil ?_
    refine QJ_then ?_
    refine CJ_condF rfl ?_
    refine CJ_exit ?_
    refine QJ_then_exit ?_
    refine QJ_then_exit ?_
    refine QJ_in_exit ?_
    refine QJ_then ?_
    refine CJ_seq ?_
    refine CJ_reg ?_
    refine LJ_y rfl rfl (YJ_move rfl) ?_
    refine LJ_y rfl rfl (YJ_assign rfl) ?_
    refine LJ_nil ?_
    refine QJ_then ?_
    refine CJ_ret ?_
    have e : digits (val l) = l.take k := digits_take hw hk hv (.inl (by omega))
    have hlen : (digits (val l)).length = k := by rw [e]; simp; omega
    refine QJ_addF (r' := sliceR 1 A k (U (l.take k))) (.head _) (fun w S h => by rw [← U_take]; exact sliceR_take (by omega) w S h) ?_
    refine QJ_fin (.inl rfl) (μ' := []) (μr := _) (φ' := [sliceR 1 A k (U (l.take k))]) (res_tmp rfl rfl) (List.Perm.refl _) (AllIn.sub (And.intro (.head _) trivial)) ?_
    exact ⟨by rw [hlen], rfl, by unfold dF; rw [hlen, e]⟩

end Go.Proofs.Ytbanlhlggkdanaa
