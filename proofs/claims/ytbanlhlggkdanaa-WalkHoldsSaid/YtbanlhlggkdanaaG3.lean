/- The walks of the loop over all real triangles. -/
import Derived.Test.YtbanlhlggkdanaaG2
import Derived.Test.YtbanlhlggkdanaaGro
set_option linter.unusedSimpArgs false
set_option linter.unusedVariables false
namespace Go.Proofs.Ytbanlhlggkdanaa
open Go.RowKit

theorem tyi_28 : tyi Try.prog 28 = some (false, 1) := by kernel_rfl
theorem ent_19 : Enter Try.prog 19 = true := by kernel_rfl
theorem ent_50 : Enter Try.prog 50 = true := by kernel_rfl


/-- the real triangles, with their numbers -/
def realsF : Nat → List Tr → List (Nat × Tr)
  | _, [] => []
  | k, t :: r => if t.real then (k, t) :: realsF (k + 1) r else realsF (k + 1) r
abbrev reals (tris : List Tr) : List (Nat × Tr) := realsF 0 tris
theorem realsF_app : ∀ (a b : List Tr) (k : Nat), realsF k (a ++ b) = realsF k a ++ realsF (k + a.length) b
  | [], b, k => by simp [realsF]
  | t :: a, b, k => by
    simp only [List.cons_append, realsF, List.length_cons]
    rw [realsF_app a b (k + 1), show k + 1 + a.length = k + (a.length + 1) by omega]
    split <;> simp
theorem reals_step {tris : List Tr} {k : Nat} {t : Tr} (ht : tris[k]? = some t) : reals (tris.take (k + 1)) = reals (tris.take k) ++ if t.real then [(k, t)] else [] := by
  have hk : k < tris.length := (List.getElem?_eq_some_iff.1 ht).1
  have e : tris.take (k + 1) = tris.take k ++ [t] := by rw [List.take_add_one, ht]; rfl
  have hl : (tris.take k).length = k := by rw [List.length_take]; omega
  rw [reals, reals, e, realsF_app, hl, Nat.zero_add]
  simp [realsF]
theorem reals_pre (tris : List Tr) (k : Nat) : reals (tris.take k) <+: reals tris := by
  have := realsF_app (tris.take k) (tris.drop k) 0
  rw [List.take_append_drop] at this
  exact ⟨_, this.symm⟩
theorem realsF_mem : ∀ {tris : List Tr} {b k : Nat} {t : Tr}, (k, t) ∈ realsF b tris ↔ b ≤ k ∧ tris[k - b]? = some t ∧ t.real
  | [], b, k, t => by simp [realsF]
  | u :: r, b, k, t => by
    have ih := realsF_mem (tris := r) (b := b + 1) (k := k) (t := t)
    unfold realsF
    split
    · rename_i hu
      rw [List.mem_cons, ih]
      constructor
      · rintro (h | ⟨h1, h2, h3⟩)
        · simp only [Prod.mk.injEq] at h
          obtain ⟨rfl, rfl⟩ := h
          simp [hu]
        · refine ⟨by omega, ?_, h3⟩
          rw [show k - b = (k - (b + 1)) + 1 by omega]
          simpa using h2
      · rintro ⟨h1, h2, h3⟩
        by_cases e : k = b
        · subst e
          simp at h2
          subst h2
          exact .inl rfl
        · refine .inr ⟨by omega, ?_, h3⟩
          rw [show k - b = (k - (b + 1)) + 1 by omega] at h2
          simpa using h2
    · rename_i hu
      rw [ih]
      constructor
      · rintro ⟨h1, h2, h3⟩
        refine ⟨by omega, ?_, h3⟩
        rw [show k - b = (k - (b + 1)) + 1 by omega]
        simpa using h2
      · rintro ⟨h1, h2, h3⟩
        by_cases e : k = b
        · subst e
          simp at h2
          subst h2
          exact absurd h3 hu
        · refine ⟨by omega, ?_, h3⟩
          rw [show k - b = (k - (b + 1)) + 1 by omega] at h2
          simpa using h2
theorem reals_mem {tris : List Tr} {k : Nat} {t : Tr} : (k, t) ∈ reals tris ↔ tris[k]? = some t ∧ t.real := by
  rw [reals, realsF_mem]
  simp
def encT (x : Nat × Tr) : List Value := [.int .i64 x.1, .agg x.2.cells.toArray]
def allFs (b B : Nat) (h : Mh) (pts : List (Int × Int)) (tris : List Tr) : List Res := sliceR 1 (some ⟨b, 0, none⟩) 1 [.pointer (some ⟨B, 0, none⟩)] :: meshFs B h pts tris
theorem mem_sw {a b c : List Res} : ∀ r, r ∈ a ++ (b ++ c) → r ∈ b ++ (a ++ c) := fun r h => by
  simp only [List.mem_append] at *
  rcases h with h | h | h
  · exact .inr (.inl h)
  · exact .inl h
  · exact .inr (.inr h)
theorem mem_sub3 {a b c d : List Res} : ∀ r, r ∈ a ++ (b ++ c) → r ∈ b ++ (a ++ (d ++ c)) := fun r h => by
  simp only [List.mem_append] at *
  rcases h with h | h | h
  · exact .inr (.inl h)
  · exact .inl h
  · exact .inr (.inr (.inr h))


set_option maxRecDepth 100000 in
set_option maxHeartbeats 1000000 in
theorem all_c {B : Nat} : Tri Try.prog 19 [.pointer (some ⟨B, 0, none⟩)] [] [] (RetX (fun _ : Nat => True) (fun b => .func (.func 50) #[] #[.pointer (some ⟨b, 0, none⟩)]) (fun _ => []) (fun b => [sliceR 1 (some ⟨b, 0, none⟩) 1 [.pointer (some ⟨B, 0, none⟩)]])) := by
  refine Tri_of (N := 4) Try.func19 rfl ent_19 rfl rfl ?_
  intro w0 S0 T0
  show CJ _ _ _ [(0, _)] _ _
  refine CJ_seq ?_
  refine CJ_reg ?_
  refine LJ_box (cs := #[_]) rfl rfl rfl rfl ?_
  intro b1
  refine LJ_freeze ?_
  refine LJ_addF (r' := sliceR 1 (some ⟨b1, 0, none⟩) 1 [.pointer (some ⟨B, 0, none⟩)]) (.head _) (fun w S h => cellsR_slice (n := 1) rfl w S h) ?_
  refine LJ_y rfl rfl (YJ_assign rfl) ?_
  refine LJ_nil ?_
  refine QJ_then ?_
  refine CJ_seq ?_
  refine CJ_reg ?_
  refine LJ_y rfl rfl (YJ_makeFunc (vs := []) (us := [_]) rfl rfl) ?_
  refine LJ_y rfl rfl (YJ_assign rfl) ?_
  refine LJ_nil ?_
  refine QJ_then ?_
  refine CJ_ret ?_
  refine QJ_fin (.inl rfl) (μ' := []) (μr := _) (φ' := [_]) (res_tmp rfl rfl) (List.Perm.refl _) (fun r h => by rw [List.mem_singleton] at h; subst h; exact .head _) ?_
  exact ⟨b1, trivial, rfl, rfl, rfl⟩

set_option maxRecDepth 100000 in
set_option maxHeartbeats 1000000 in
theorem all1_c {b B : Nat} {h : Mh} {pts : List (Int × Int)} {tris : List Tr} {l : Nat} {J Jx : List (Nat × Tr) → List Res → List Res → Prop} {φx : List Res} (hlen : tris.length ≤ 1073741824)
    (hy : ∀ pre x μ φ, (pre ++ [x]) <+: reals tris → J pre μ φ → YTri Try.prog l (encT x) μ (φ ++ (allFs b B h pts tris ++ φx)) (fun v μ' φ' => (v = .bool true ∧ J (pre ++ [x]) μ' φ') ∨ (v = .bool false ∧ Jx (pre ++ [x]) μ' φ')))
    {μ φ : List Res} (hJ : J [] μ φ) : Tri Try.prog 50 [.func (.yield l) #[] #[], .pointer (some ⟨b, 0, none⟩)] μ (φ ++ (allFs b B h pts tris ++ φx)) (fun _ μ' φ' => J (reals tris) μ' φ' ∨ ∃ pre, pre <+: reals tris ∧ Jx pre μ' φ') := by
  refine Tri_of (N := 26) Try.func50 rfl ent_50 rfl rfl ?_
  intro w0 S0 T0
  show CJ _ _ _ [(0, _), (1, _)] _ _
  refine CJ_weak (σ' := [(0, _), (1, _)]) (μ' := μ) (μr := []) (φ' := allFs b B h pts tris ++ (φ ++ φx)) ⟨rfl, rfl, trivial⟩ (by simp) (fun r h => mem_sw r h) ?_
  refine CJ_seq ?_
  refine CJ_reg ?_
  refine LJ_y rfl rfl (YJ_loadFactP (A := some ⟨b, 0, none⟩) (j := 0) rfl rfl tyi_28 (by repeat first | exact .head _ | apply List.Mem.tail) rfl) ?_
  refine LJ_y rfl rfl (YJ_nilCheck rfl) ?_
  first | refine LJ_y rfl rfl (YJ_fieldOwn rfl fld_57_1 rfl) ?_ | refine LJ_y rfl rfl (YJ_fieldAddr rfl fld_57_1) ?_
  refine LJ_y rfl rfl (YJ_loadFactP (A := some ⟨B, 0, none⟩) (j := 1) rfl rfl tyi_54 (by repeat first | exact .head _ | apply List.Mem.tail) rfl) ?_
  refine LJ_y rfl rfl (YJ_len rfl ulen_54 rfl) ?_
  refine LJ_y rfl rfl (YJ_move rfl) ?_
  refine LJ_nil ?_
  refine QJ_then ?_
  refine CJ_block ?_
  refine CJ_loop (F := fun (i : Nat × List Res × List Res) => ⟨[(0, .func (.yield l) #[] #[]), (1, .pointer (some ⟨b, 0, none⟩)), (8, .slice h.T tris.length h.ct), (9, .int .i64 tris.length), (10, .int .i64 (i.1 : Nat))], i.2.1, (allFs b B h pts tris ++ (i.2.2 ++ φx))⟩) (I := fun (i : Nat × List Res × List Res) => i.1 ≤ tris.length ∧ J (reals (tris.take i.1)) i.2.1 i.2.2) (m := fun (i : Nat × List Res × List Res) => tris.length - i.1) (0, μ, φ) (μr := []) ⟨Nat.zero_le _, hJ⟩ (And.intro rfl (And.intro rfl (And.intro rfl (And.intro rfl (And.intro rfl (trivial)))))) ((by simp)) (fun _ h => h) ?_
  rintro ⟨k, μ1, φ1⟩ ⟨hk, hJ⟩
  try dsimp only at hk
  try dsimp only at hJ
  show CJ _ _ _ [(0, .func (.yield l) #[] #[]), (1, .pointer (some ⟨b, 0, none⟩)), (8, .slice h.T tris.length h.ct), (9, .int .i64 tris.length), (10, .int .i64 (k : Nat))] μ1 (allFs b B h pts tris ++ (φ1 ++ φx))
  refine CJ_seq ?_
  refine CJ_reg ?_
  refine LJ_y rfl rfl (YJ_bin rfl rfl rfl) ?_
  refine LJ_nil ?_
  refine QJ_then ?_
  refine CJ_seq ?_
  refine CJ_cond rfl (fun h11 => ?_) (fun h11 => ?_)
  · try simp only [decide_eq_true_eq, decide_eq_false_iff_not, Bool.not_eq_true', Bool.not_eq_false', Bool.and_eq_true, Bool.and_eq_false_iff, beq_iff_eq, bne_iff_ne, beq_eq_false_iff_ne, bne_eq_false_iff_eq, ne_eq, decide_eq_decide] at h11
    obtain ⟨t, ht⟩ := get_of_lt (tris := tris) (i := (k : Int)) (by omega) (by omega)
    have htk : tris[k]? = some t := by simpa using ht
    have hst := reals_step htk
    have hri := real_iff (by omega) ht
    refine CJ_skip ?_
    refine QJ_then ?_
    refine CJ_seq ?_
    refine CJ_block ?_
    refine CJ_seq ?_
    refine CJ_reg ?_
    refine LJ_y rfl rfl (YJ_move rfl) ?_
    first | refine LJ_y rfl rfl (YJ_ixOwn rfl rfl elt_54 (by omega) (by omega)) ?_ | refine LJ_y rfl rfl (YJ_ixFact rfl rfl elt_54 (by repeat first | exact .head _ | apply List.Mem.tail) (by decide) (by omega) (by omega) (by omega)) ?_
    refine LJ_y rfl rfl (YJ_loadFactN (vs := [.int .i64 t.v0, .int .i64 t.v1, .int .i64 t.v2, .int .i64 t.n0, .int .i64 t.n1, .int .i64 t.n2, .bool t.f0, .bool t.f1, .bool t.f2]) (xs := trCells tris) rfl tyi_37 (by repeat first | exact .head _ | apply List.Mem.tail) (trCells_row ht) rfl) ?_
    refine LJ_alloc (cs := #[_, _, _, _, _, _, _, _, _]) rfl rfl zer_37 rfl ?_
    intro b1
    refine LJ_y rfl rfl (YJ_assign rfl) ?_
    refine LJ_store (cs' := #[_, _, _, _, _, _, _, _, _]) (μ' := (_ :: _)) 0 rfl rfl rfl rfl tyi_37 rfl (Nat.le_of_ble_eq_true rfl) rfl (wr_all rfl) rfl ?_
    refine LJ_nil ?_
    refine QJ_then ?_
    refine CJ_seq ?_
    refine CJ_regY ?_
    refine LY_y rfl rfl (YJ_loadFactP (A := some ⟨b, 0, none⟩) (j := 0) rfl rfl tyi_28 (by repeat first | exact .head _ | apply List.Mem.tail) rfl) ?_
    refine LY_y rfl rfl (YJ_move rfl) ?_
    refine LY_call0 rfl rfl rfl rfl rfl (real_c (h := h) (pts := pts) (tris := tris)) (fun r h => .tail _ (List.mem_append_left _ h)) ?_
    refine LY_y rfl rfl (YJ_move rfl) ?_
    refine LY_boolC (fun h18 => ?_) (fun h18 => ?_)
    · try simp only [decide_eq_true_eq, decide_eq_false_iff_not, Bool.not_eq_true', Bool.not_eq_false', Bool.and_eq_true, Bool.and_eq_false_iff, beq_iff_eq, bne_iff_ne, beq_eq_false_iff_ne, bne_eq_false_iff_eq, ne_eq, decide_eq_decide] at h18
      have hstep : reals (tris.take (k + 1)) = reals (tris.take k) ++ [(k, t)] := by rw [hst, if_pos (hri.1 h18)]
      refine LY_y rfl rfl (YJ_move rfl) ?_
      refine LY_y rfl rfl (YJ_move rfl) ?_
      first | refine LY_y rfl rfl (YJ_loadN (vs := [_, _, _, _, _, _, _, _, _]) rfl tyi_37 (by repeat first | exact .head _ | apply List.Mem.tail) rfl rfl) ?_ | refine LY_y rfl rfl (YJ_loadFactN (vs := [_, _, _, _, _, _, _, _, _]) rfl tyi_37 (by repeat first | exact .head _ | apply List.Mem.tail) rfl rfl) ?_
      refine LY_yield rfl rfl rfl rfl (hy _ (k, t) μ1 φ1 (by rw [← hstep]; exact reals_pre tris (k + 1)) hJ) (μr := [_]) (List.perm_append_singleton _ _).symm (fun r h => mem_sw r h) ?_
      intro v μ2 φ2 hpost
      obtain ⟨c, rfl, hc⟩ : ∃ c : Bool, v = .bool c ∧ ((c = true ∧ J (reals (tris.take k) ++ [(k, t)]) μ2 φ2) ∨ (c = false ∧ Jx (reals (tris.take k) ++ [(k, t)]) μ2 φ2)) := by
        rcases hpost with ⟨rfl, h⟩ | ⟨rfl, h⟩
        · exact ⟨true, rfl, .inl ⟨rfl, h⟩⟩
        · exact ⟨false, rfl, .inr ⟨rfl, h⟩⟩
      refine LY_boolC (fun h22 => ?_) (fun h22 => ?_)
      · try simp only [decide_eq_true_eq, decide_eq_false_iff_not, Bool.not_eq_true', Bool.not_eq_false', Bool.and_eq_true, Bool.and_eq_false_iff, beq_iff_eq, bne_iff_ne, beq_eq_false_iff_ne, bne_eq_false_iff_eq, ne_eq, decide_eq_decide] at h22
        replace hc : J (reals (tris.take (k + 1))) μ2 φ2 := by
          rw [hstep]
          rcases hc with ⟨_, q⟩ | ⟨q, _⟩
          · exact q
          · rw [h22] at q; cases q
        refine LY_y rfl rfl (YJ_not rfl) ?_
        refine LY_y rfl rfl (YJ_pickT rfl rfl) ?_
        refine LY_nil ?_
        refine QJ_then ?_
        refine CJ_condF rfl ?_
        refine CJ_skip ?_
        refine QJ_in_normal ?_
        refine QJ_then ?_
        refine CJ_reg ?_
        first | refine LJ_y rfl rfl (YJ_bin rfl rfl (iop_add (by omega))) ?_ | refine LJ_y rfl rfl (YJ_bin rfl rfl rfl) ?_
        refine LJ_y rfl rfl (YJ_move rfl) ?_
        refine LJ_nil ?_
        refine QJ_round (F := fun (i : Nat × List Res × List Res) => ⟨[(0, .func (.yield l) #[] #[]), (1, .pointer (some ⟨b, 0, none⟩)), (8, .slice h.T tris.length h.ct), (9, .int .i64 tris.length), (10, .int .i64 (i.1 : Nat))], i.2.1, (allFs b B h pts tris ++ (i.2.2 ++ φx))⟩) (I := fun (i : Nat × List Res × List Res) => i.1 ≤ tris.length ∧ J (reals (tris.take i.1)) i.2.1 i.2.2) (m := fun (i : Nat × List Res × List Res) => tris.length - i.1) (i := (k, μ1, φ1)) ((k + 1, μ2, φ2)) (μr := [_]) ⟨by omega, hc⟩ (by dsimp only; omega) (And.intro rfl (And.intro rfl (And.intro rfl (And.intro rfl (And.intro rfl (trivial)))))) (List.Perm.refl _) (fun r h => mem_sub3 r h)
      · try simp only [decide_eq_true_eq, decide_eq_false_iff_not, Bool.not_eq_true', Bool.not_eq_false', Bool.and_eq_true, Bool.and_eq_false_iff, beq_iff_eq, bne_iff_ne, beq_eq_false_iff_ne, bne_eq_false_iff_eq, ne_eq, decide_eq_decide] at h22
        replace hc : Jx (reals (tris.take (k + 1))) μ2 φ2 := by
          rw [hstep]
          rcases hc with ⟨q, _⟩ | ⟨_, q⟩
          · rw [h22] at q; cases q
          · exact q
        refine LY_y rfl rfl (YJ_not rfl) ?_
        refine LY_y rfl rfl (YJ_pickT rfl rfl) ?_
        refine LY_nil ?_
        refine QJ_then ?_
        refine CJ_condT rfl ?_
        refine CJ_ret ?_
        refine QJ_in_ret ?_
        refine QJ_then_ret ?_
        refine QJ_then_ret ?_
        refine QJ_in_ret ?_
        exact QJ_fin (.inl rfl) (μ' := μ2) (μr := [_]) (φ' := φ2) (res_none rfl) (List.Perm.refl _) (fun r h => List.mem_append_left _ h) (.inr ⟨_, reals_pre tris (k + 1), hc⟩)
    · try simp only [decide_eq_true_eq, decide_eq_false_iff_not, Bool.not_eq_true', Bool.not_eq_false', Bool.and_eq_true, Bool.and_eq_false_iff, beq_iff_eq, bne_iff_ne, beq_eq_false_iff_ne, bne_eq_false_iff_eq, ne_eq, decide_eq_decide] at h18
      have hstep : reals (tris.take (k + 1)) = reals (tris.take k) := by rw [hst, if_neg (fun q => h18 (hri.2 q)), List.append_nil]
      refine LY_skip rfl rfl ?_
      refine LY_skip rfl rfl ?_
      refine LY_skip rfl rfl ?_
      refine LY_skip rfl rfl ?_
      refine LY_skip rfl rfl ?_
      refine LY_y rfl rfl (YJ_pickF rfl rfl) ?_
      refine LY_nil ?_
      refine QJ_then ?_
      refine CJ_condF rfl ?_
      refine CJ_skip ?_
      refine QJ_in_normal ?_
      refine QJ_then ?_
      refine CJ_reg ?_
      first | refine LJ_y rfl rfl (YJ_bin rfl rfl (iop_add (by omega))) ?_ | refine LJ_y rfl rfl (YJ_bin rfl rfl rfl) ?_
      refine LJ_y rfl rfl (YJ_move rfl) ?_
      refine LJ_nil ?_
      refine QJ_round (F := fun (i : Nat × List Res × List Res) => ⟨[(0, .func (.yield l) #[] #[]), (1, .pointer (some ⟨b, 0, none⟩)), (8, .slice h.T tris.length h.ct), (9, .int .i64 tris.length), (10, .int .i64 (i.1 : Nat))], i.2.1, (allFs b B h pts tris ++ (i.2.2 ++ φx))⟩) (I := fun (i : Nat × List Res × List Res) => i.1 ≤ tris.length ∧ J (reals (tris.take i.1)) i.2.1 i.2.2) (m := fun (i : Nat × List Res × List Res) => tris.length - i.1) (i := (k, μ1, φ1)) ((k + 1, μ1, φ1)) (μr := [_]) ⟨by omega, by show J (reals (tris.take (k + 1))) _ _; rw [hstep]; exact hJ⟩ (by dsimp only; omega) (And.intro rfl (And.intro rfl (And.intro rfl (And.intro rfl (And.intro rfl (trivial)))))) ((List.perm_append_singleton _ _).symm) (fun _ h => h)
  · try simp only [decide_eq_true_eq, decide_eq_false_iff_not, Bool.not_eq_true', Bool.not_eq_false', Bool.and_eq_true, Bool.and_eq_false_iff, beq_iff_eq, bne_iff_ne, beq_eq_false_iff_ne, bne_eq_false_iff_eq, ne_eq, decide_eq_decide] at h11
    refine CJ_exit ?_
    refine QJ_then_exit ?_
    refine QJ_then_exit ?_
    refine QJ_in_exit ?_
    exact QJ_fin (.inr rfl) (μ' := μ1) (μr := []) (φ' := φ1) (res_none rfl) (by simp) (fun r h => List.mem_append_right _ (List.mem_append_left _ h)) (.inl (by rw [List.take_of_length_le (by omega)] at hJ; exact hJ))


theorem all_it {b B : Nat} {h : Mh} {pts : List (Int × Int)} {tris : List Tr} (hlen : tris.length ≤ 1073741824) : ITri Try.prog 50 [.pointer (some ⟨b, 0, none⟩)] encT (reals tris) (allFs b B h pts tris) :=
  ⟨by kernel_rfl, fun _ _ _ _ hy _ _ hJ => all1_c hlen hy hJ⟩


end Go.Proofs.Ytbanlhlggkdanaa
