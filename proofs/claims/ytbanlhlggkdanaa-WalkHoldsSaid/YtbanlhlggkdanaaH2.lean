/- The walk of what makes a triangle. -/
import Derived.Test.YtbanlhlggkdanaaH1
set_option linter.unusedSimpArgs false
set_option linter.unusedVariables false
namespace Go.Proofs.Ytbanlhlggkdanaa
open Go.RowKit

theorem ent_35 : Enter Try.prog 35 = true := by kernel_rfl


/-- the number of a new triangle -/
def MD.nextN (m : MD) : Int := match m.free.getLast? with
  | some k => k
  | none => m.tris.length
def setAt (l : List Int) (v n : Int) : List Int := if 0 ≤ v then l.set v.toNat n else l
def MD.make (m : MD) (a b c : Int) : MD :=
  { m with
    tris := match m.free.getLast? with
      | some k => m.tris.set k.toNat (Tr.new a b c)
      | none => m.tris ++ [Tr.new a b c]
    free := m.free.dropLast
    ats := setAt (setAt (setAt m.ats a m.nextN) b m.nextN) c m.nextN }
theorem last_of {l : List Int} (h : 0 < l.length) : ∃ k, l.getLast? = some k ∧ (Iv l)[l.length - 1]? = some (.int .i64 k) ∧ (Iv l).take ((l.length - 1) * 1) = Iv l.dropLast ∧ k ∈ l := by
  have hne : l ≠ [] := by intro e; subst e; simp at h
  refine ⟨l.getLast hne, List.getLast?_eq_some_getLast hne, ?_, ?_, List.getLast_mem hne⟩
  · rw [Iv, List.getElem?_map, ← List.getLast?_eq_getElem?, List.getLast?_eq_some_getLast hne]
    rfl
  · rw [Nat.mul_one, Iv, ← List.map_take, List.dropLast_eq_take]
    rfl
theorem setAt_len (l : List Int) (v n : Int) : (setAt l v n).length = l.length := by unfold setAt; split <;> simp
theorem Iv_setAt {l : List Int} {v n : Int} {off : Nat} (h0 : 0 ≤ v) (h1 : v < l.length) (ho : off = v.toNat) : (Iv l).take off ++ ((Value.int .i64 n).cells.toList ++ (Iv l).drop (off + 1)) = Iv (setAt l v n) := by
  subst ho
  have e : setAt l v n = l.set v.toNat n := if_pos h0
  rw [e]
  have := one_set (xs := Iv l) (off := v.toNat) (v := .int .i64 n) (by rw [Iv_len]; omega)
  exact this.trans (by simp [Iv, List.map_set])


set_option maxRecDepth 100000 in
set_option maxHeartbeats 4000000 in
theorem make_c {B : Nat} {M : MD} {a b c : Int} (hlen : M.tris.length ≤ 1000000) (hfl : M.free.length ≤ 1000000) (hfr : ∀ k, k ∈ M.free → 0 ≤ k ∧ k < M.tris.length) (ha : a < M.ats.length) (hb : b < M.ats.length) (hc : c < M.ats.length) (hA : 0 < M.ats.length) : Tri Try.prog 35 [.pointer (some ⟨B, 0, none⟩), .int .i64 a, .int .i64 b, .int .i64 c] [meshR B M] [] (Ret1 (.int .i64 M.nextN) (meshR B (M.make a b c))) := by
  refine Tri_of (N := 83) Try.func35 rfl ent_35 rfl rfl ?_
  intro w0 S0 T0
  show CJ _ _ _ [(0, _), (1, _), (2, _), (3, _)] _ _
  refine CJ_open (fun hd => ?_)
  obtain ⟨P, cP, T, cT, F, cF, A, cA⟩ := hd
  show CJ _ _ _ _ [cellsR B #[.slice P M.pts.length cP, .slice T M.tris.length cT, .slice F M.free.length cF, .slice A M.ats.length cA] _, rowR _ 2 P M.pts.length cP (ptCells M.pts), rowR _ 9 T M.tris.length cT (trCells M.tris), rowR _ 1 F M.free.length cF (Iv M.free), rowR _ 1 A M.ats.length cA (Iv M.ats)] _
  refine CJ_rowSome (A := A) (by repeat first | exact .head _ | apply List.Mem.tail) hA (fun gA hgA hcA => ?_)
  subst hgA
  refine CJ_seq ?_
  refine CJ_reg ?_
  refine LJ_y rfl rfl (YJ_assign rfl) ?_
  refine LJ_nil ?_
  refine QJ_then ?_
  refine CJ_seq ?_
  refine CJ_reg ?_
  refine LJ_y rfl rfl (YJ_move rfl) ?_
  refine LJ_y rfl rfl (YJ_move rfl) ?_
  refine LJ_y rfl rfl (YJ_move rfl) ?_
  refine LJ_y rfl rfl (YJ_build1 (cs := [_, _, _]) lay_34 rfl rfl rfl) ?_
  refine LJ_y rfl rfl (YJ_build1 (cs := [_, _, _]) lay_34 rfl rfl rfl) ?_
  refine LJ_y rfl rfl (YJ_buildN (cs := [_, _, _, _, _, _, _, _, _]) layn_37 rfl rfl rfl) ?_
  refine LJ_alloc (cs := #[_, _, _, _, _, _, _, _, _]) rfl rfl zer_37 rfl ?_
  intro b1
  refine LJ_store (cs' := #[_, _, _, _, _, _, _, _, _]) (μ' := [_, _, _, _, _, _]) 0 rfl rfl rfl rfl tyi_37 rfl (Nat.le_of_ble_eq_true rfl) rfl (wr_all rfl) rfl ?_
  refine LJ_nil ?_
  refine QJ_then ?_
  refine CJ_seq ?_
  refine CJ_reg ?_
  refine LJ_y rfl rfl (YJ_move rfl) ?_
  refine LJ_y rfl rfl (YJ_nilCheck rfl) ?_
  first | refine LJ_y rfl rfl (YJ_fieldOwn rfl fld_57_1 rfl) ?_ | refine LJ_y rfl rfl (YJ_fieldAddr rfl fld_57_1) ?_
  first | refine LJ_y rfl rfl (YJ_loadL rfl tyi_54 (by repeat first | exact .head _ | apply List.Mem.tail) rfl) ?_ | refine LJ_y rfl rfl (YJ_loadFact rfl tyi_54 (by repeat first | exact .head _ | apply List.Mem.tail) rfl) ?_
  refine LJ_y rfl rfl (YJ_len rfl ulen_54 rfl) ?_
  refine LJ_y rfl rfl (YJ_assign rfl) ?_
  refine LJ_nil ?_
  refine QJ_then ?_
  refine CJ_seq ?_
  refine CJ_seq ?_
  refine CJ_reg ?_
  refine LJ_y rfl rfl (YJ_move rfl) ?_
  refine LJ_y rfl rfl (YJ_nilCheck rfl) ?_
  first | refine LJ_y rfl rfl (YJ_fieldOwn rfl fld_57_2 rfl) ?_ | refine LJ_y rfl rfl (YJ_fieldAddr rfl fld_57_2) ?_
  first | refine LJ_y rfl rfl (YJ_loadL rfl tyi_55 (by repeat first | exact .head _ | apply List.Mem.tail) rfl) ?_ | refine LJ_y rfl rfl (YJ_loadFact rfl tyi_55 (by repeat first | exact .head _ | apply List.Mem.tail) rfl) ?_
  refine LJ_y rfl rfl (YJ_len rfl ulen_55 rfl) ?_
  refine LJ_y rfl rfl (YJ_assign rfl) ?_
  refine LJ_nil ?_
  refine QJ_then ?_
  refine CJ_seq ?_
  refine CJ_reg ?_
  refine LJ_y rfl rfl (YJ_move rfl) ?_
  refine LJ_y rfl rfl (YJ_bin rfl rfl rfl) ?_
  refine LJ_nil ?_
  refine QJ_then ?_
  refine CJ_cond rfl (fun h31 => ?_) (fun h31 => ?_)
  · try simp only [decide_eq_true_eq, decide_eq_false_iff_not, Bool.not_eq_true', Bool.not_eq_false', Bool.and_eq_true, Bool.and_eq_false_iff, beq_iff_eq, bne_iff_ne, beq_eq_false_iff_ne, bne_eq_false_iff_eq, ne_eq, decide_eq_decide] at h31
    obtain ⟨nn, hk1, hk2, hk3, hk4⟩ := last_of (l := M.free) (by omega)
    obtain ⟨hk5, hk6⟩ := hfr nn hk4
    refine CJ_rowSome (A := F) (by repeat first | exact .head _ | apply List.Mem.tail) (by omega) (fun gF hF hcF => ?_)
    subst hF
    refine CJ_rowSome (A := T) (by repeat first | exact .head _ | apply List.Mem.tail) (by omega) (fun gT hT hcT => ?_)
    subst hT
    refine CJ_seq ?_
    refine CJ_regM mix (by kernel_rfl) (fun _ _ _ _ _ h => h) [[], [19], [], [], [], []] ?_
    refine BJ_y 0 rfl (by kernel_rfl) (by kernel_rfl) (by kernel_rfl) rfl rfl (YJ_move rfl) ?_
    refine BJ_y 1 rfl (by kernel_rfl) (by kernel_rfl) (by kernel_rfl) rfl rfl (YJ_move rfl) ?_
    refine BJ_y 2 rfl (by kernel_rfl) (by kernel_rfl) (by kernel_rfl) rfl rfl (YJ_nilCheck rfl) ?_
    first | refine BJ_y 3 rfl (by kernel_rfl) (by kernel_rfl) (by kernel_rfl) rfl rfl (YJ_fieldOwn rfl fld_57_2 rfl) ?_ | refine BJ_y 3 rfl (by kernel_rfl) (by kernel_rfl) (by kernel_rfl) rfl rfl (YJ_fieldAddr rfl fld_57_2) ?_
    first | refine BJ_l 4 1 rfl (by kernel_rfl) (by kernel_rfl) (by kernel_rfl) rfl (by kernel_rfl) (by repeat first | exact .head _ | apply List.Mem.tail) rfl rfl (YJ_loadL rfl tyi_55 (by repeat first | exact .head _ | apply List.Mem.tail) rfl) ?_ | refine BJ_l 4 1 rfl (by kernel_rfl) (by kernel_rfl) (by kernel_rfl) rfl (by kernel_rfl) (by repeat first | exact .head _ | apply List.Mem.tail) rfl rfl (YJ_loadFact rfl tyi_55 (by repeat first | exact .head _ | apply List.Mem.tail) rfl) ?_
    refine BJ_y 5 rfl (by kernel_rfl) (by kernel_rfl) (by kernel_rfl) rfl rfl (YJ_move rfl) ?_
    first | refine BJ_y 6 rfl (by kernel_rfl) (by kernel_rfl) (by kernel_rfl) rfl rfl (YJ_bin rfl rfl (iop_sub (by omega))) ?_ | refine BJ_y 6 rfl (by kernel_rfl) (by kernel_rfl) (by kernel_rfl) rfl rfl (YJ_bin rfl rfl rfl) ?_
    refine BJ_y 7 rfl (by kernel_rfl) (by kernel_rfl) (by kernel_rfl) rfl rfl (YJ_ixOwn rfl rfl elt_55 (by omega) (by omega)) ?_
    refine BJ_l 8 4 rfl (by kernel_rfl) (by kernel_rfl) (by kernel_rfl) rfl (by kernel_rfl) (by repeat first | exact .head _ | apply List.Mem.tail) rfl rfl (YJ_row (.head _) (YJ_loadFactP (A := some ⟨gF, 0, none⟩) (j := M.free.length - 1) rfl (addr_eq (by omega)) tyi_3 (.head _) hk2)) ?_
    refine BJ_y 9 rfl (by kernel_rfl) (by kernel_rfl) (by kernel_rfl) rfl rfl (YJ_move rfl) ?_
    refine BJ_y 10 rfl (by kernel_rfl) (by kernel_rfl) (by kernel_rfl) rfl rfl (YJ_nilCheck rfl) ?_
    first | refine BJ_y 11 rfl (by kernel_rfl) (by kernel_rfl) (by kernel_rfl) rfl rfl (YJ_fieldOwn rfl fld_57_2 rfl) ?_ | refine BJ_y 11 rfl (by kernel_rfl) (by kernel_rfl) (by kernel_rfl) rfl rfl (YJ_fieldAddr rfl fld_57_2) ?_
    first | refine BJ_l 12 1 rfl (by kernel_rfl) (by kernel_rfl) (by kernel_rfl) rfl (by kernel_rfl) (by repeat first | exact .head _ | apply List.Mem.tail) rfl rfl (YJ_loadL rfl tyi_55 (by repeat first | exact .head _ | apply List.Mem.tail) rfl) ?_ | refine BJ_l 12 1 rfl (by kernel_rfl) (by kernel_rfl) (by kernel_rfl) rfl (by kernel_rfl) (by repeat first | exact .head _ | apply List.Mem.tail) rfl rfl (YJ_loadFact rfl tyi_55 (by repeat first | exact .head _ | apply List.Mem.tail) rfl) ?_
    refine BJ_y 13 rfl (by kernel_rfl) (by kernel_rfl) (by kernel_rfl) rfl rfl (YJ_move rfl) ?_
    first | refine BJ_y 14 rfl (by kernel_rfl) (by kernel_rfl) (by kernel_rfl) rfl rfl (YJ_bin rfl rfl (iop_sub (by omega))) ?_ | refine BJ_y 14 rfl (by kernel_rfl) (by kernel_rfl) (by kernel_rfl) rfl rfl (YJ_bin rfl rfl rfl) ?_
    refine BJ_y 15 rfl (by kernel_rfl) (by kernel_rfl) (by kernel_rfl) rfl rfl (YJ_sliceH (m := M.free.length - 1) rfl rfl elt_55 (by omega) (by omega)) ?_
    refine BJ_y 16 rfl (by kernel_rfl) (by kernel_rfl) (by kernel_rfl) rfl rfl (YJ_assign rfl) ?_
    refine BJ_y 17 rfl (by kernel_rfl) (by kernel_rfl) (by kernel_rfl) rfl rfl (YJ_nilCheck rfl) ?_
    first | refine BJ_y 18 rfl (by kernel_rfl) (by kernel_rfl) (by kernel_rfl) rfl rfl (YJ_fieldOwn rfl fld_57_2 rfl) ?_ | refine BJ_y 18 rfl (by kernel_rfl) (by kernel_rfl) (by kernel_rfl) rfl rfl (YJ_fieldAddr rfl fld_57_2) ?_
    refine BJ_store (cs' := #[_, _, _, _]) (μ' := [_, _, _, _, _, _]) 19 1 rfl (by kernel_rfl) rfl rfl rfl rfl tyi_55 rfl (Nat.le_of_ble_eq_true rfl) rfl rfl rfl (And.intro (.inr (by repeat first | exact .head _ | apply List.Mem.tail)) (And.intro (.inl rfl) (And.intro (.inr (by repeat first | exact .head _ | apply List.Mem.tail)) (And.intro (.inr (by repeat first | exact .head _ | apply List.Mem.tail)) (And.intro (.inr (by repeat first | exact .head _ | apply List.Mem.tail)) (And.intro (.inr (by repeat first | exact .head _ | apply List.Mem.tail)) (trivial))))))) ?_
    refine BJ_done (by kernel_rfl) ?_
    refine QJ_then ?_
    refine CJ_turnK (k := 4) (r' := rowR 3 1 (some ⟨gF, 0, none⟩) (M.free.length - 1) cF (Iv M.free.dropLast)) rfl (fun w S q => hk3 ▸ rowR.short (by omega) q) ?_
    refine CJ_regD mix (by kernel_rfl) (fun _ _ _ _ _ h => h) (selR [0, 1, 2, 4, 5] _) _ (selR_sub _ _) (fun _ h => h) ?_
    refine AJ_y 0 rfl (by kernel_rfl) (by kernel_rfl) rfl rfl (YJ_move rfl) ?_
    refine AJ_y 1 rfl (by kernel_rfl) (by kernel_rfl) rfl rfl (YJ_nilCheck rfl) ?_
    first | refine AJ_y 2 rfl (by kernel_rfl) (by kernel_rfl) rfl rfl (YJ_fieldOwn rfl fld_57_1 rfl) ?_ | refine AJ_y 2 rfl (by kernel_rfl) (by kernel_rfl) rfl rfl (YJ_fieldAddr rfl fld_57_1) ?_
    first | refine AJ_y 3 rfl (by kernel_rfl) (by kernel_rfl) rfl rfl (YJ_loadL rfl tyi_54 (by repeat first | exact .head _ | apply List.Mem.tail) rfl) ?_ | refine AJ_y 3 rfl (by kernel_rfl) (by kernel_rfl) rfl rfl (YJ_loadFact rfl tyi_54 (by repeat first | exact .head _ | apply List.Mem.tail) rfl) ?_
    refine AJ_y 4 rfl (by kernel_rfl) (by kernel_rfl) rfl rfl (YJ_move rfl) ?_
    first | refine AJ_y 5 rfl (by kernel_rfl) (by kernel_rfl) rfl rfl (YJ_loadN (vs := [_, _, _, _, _, _, _, _, _]) rfl tyi_37 (by repeat first | exact .head _ | apply List.Mem.tail) rfl rfl) ?_ | refine AJ_y 5 rfl (by kernel_rfl) (by kernel_rfl) rfl rfl (YJ_loadFactN (vs := [_, _, _, _, _, _, _, _, _]) rfl tyi_37 (by repeat first | exact .head _ | apply List.Mem.tail) rfl rfl) ?_
    refine AJ_y 6 rfl (by kernel_rfl) (by kernel_rfl) rfl rfl (YJ_ixOwn rfl rfl elt_54 (by omega) (by omega)) ?_
    refine AJ_storeRow (off := nn.toNat * 9) (xs' := trCells (M.tris.set nn.toNat (Tr.new a b c))) (μ' := (_ :: _ :: _ :: _ :: _ :: _ :: _)) 7 3 rfl (by kernel_rfl) rfl rfl rfl (addr_eq (by omega)) rfl tyi_37 rfl (by rw [trCells_len]; omega) rfl (row_set (t := Tr.new a b c) (by omega) rfl) (by rw [trCells_len]; omega) rfl (fun _ => AllIn.sub (And.intro (by repeat first | exact .head _ | apply List.Mem.tail) (And.intro (by repeat first | exact .head _ | apply List.Mem.tail) (And.intro (by repeat first | exact .head _ | apply List.Mem.tail) (And.intro (by repeat first | exact .head _ | apply List.Mem.tail) (And.intro (by repeat first | exact .head _ | apply List.Mem.tail) (trivial))))))) ?_
    refine AJ_done (by kernel_rfl) ?_
    refine QJ_then ?_
    refine CJ_seq ?_
    refine CJ_seq ?_
    refine CJ_reg ?_
    first | refine LJ_y rfl rfl (YJ_fieldOwn rfl fld_37_0 rfl) ?_ | refine LJ_y rfl rfl (YJ_fieldAddr rfl fld_37_0) ?_
    first | refine LJ_y rfl rfl (YJ_loadN (vs := [_, _, _]) rfl tyi_34 (by repeat first | exact .head _ | apply List.Mem.tail) rfl rfl) ?_ | refine LJ_y rfl rfl (YJ_loadFactN (vs := [_, _, _]) rfl tyi_34 (by repeat first | exact .head _ | apply List.Mem.tail) rfl rfl) ?_
    refine LJ_y rfl rfl (YJ_move rfl) ?_
    refine LJ_nil ?_
    refine QJ_then ?_
    refine CJ_block ?_
    refine CJ_loopN 4 ?_
    refine CN_succ ?_
    refine CJ_seq ?_
    refine CJ_reg ?_
    refine LJ_y rfl rfl (YJ_bin rfl rfl rfl) ?_
    refine LJ_nil ?_
    refine QJ_then ?_
    refine CJ_seq ?_
    refine CJ_condT rfl ?_
    refine CJ_skip ?_
    refine QJ_then ?_
    refine CJ_seq ?_
    refine CJ_block ?_
    refine CJ_seq ?_
    refine CJ_reg ?_
    refine LJ_y rfl rfl (YJ_index1 rfl rfl arrt_34 tyi_3 (by omega) (by omega) rfl) ?_
    refine LJ_y rfl rfl (YJ_assign rfl) ?_
    refine LJ_nil ?_
    refine QJ_then ?_
    refine CJ_seq ?_
    refine CJ_reg ?_
    refine LJ_y rfl rfl (YJ_move rfl) ?_
    refine LJ_y rfl rfl (YJ_bin rfl rfl rfl) ?_
    refine LJ_nil ?_
    refine QJ_then ?_
    refine CJ_cond rfl (fun h73 => ?_) (fun h73 => ?_)
    · try simp only [decide_eq_true_eq, decide_eq_false_iff_not, Bool.not_eq_true', Bool.not_eq_false', Bool.and_eq_true, Bool.and_eq_false_iff, beq_iff_eq, bne_iff_ne, beq_eq_false_iff_ne, bne_eq_false_iff_eq, ne_eq, decide_eq_decide] at h73
      refine CJ_reg ?_
      refine LJ_y rfl rfl (YJ_move rfl) ?_
      refine LJ_y rfl rfl (YJ_nilCheck rfl) ?_
      first | refine LJ_y rfl rfl (YJ_fieldOwn rfl fld_57_3 rfl) ?_ | refine LJ_y rfl rfl (YJ_fieldAddr rfl fld_57_3) ?_
      first | refine LJ_y rfl rfl (YJ_loadL rfl tyi_55 (by repeat first | exact .head _ | apply List.Mem.tail) rfl) ?_ | refine LJ_y rfl rfl (YJ_loadFact rfl tyi_55 (by repeat first | exact .head _ | apply List.Mem.tail) rfl) ?_
      refine LJ_y rfl rfl (YJ_move rfl) ?_
      refine LJ_y rfl rfl (YJ_move rfl) ?_
      refine LJ_val (v := .int .i64 nn) (by first | rfl | rw [hnn]) ?_
      refine LJ_y rfl rfl (YJ_ixOwn rfl rfl elt_55 (by omega) (by omega)) ?_
      refine LJ_storeRow (off := a.toNat) (xs' := Iv (setAt M.ats a nn)) (μ' := (_ :: _ :: _ :: _ :: _ :: _ :: _)) 5 rfl rfl rfl (addr_eq (by omega)) rfl tyi_3 rfl (by simp only [Iv_len, setAt_len]; omega) rfl (Iv_setAt (by omega) (by first | omega | (simp only [setAt_len]; omega)) rfl) (by simp only [Iv_len, setAt_len]; omega) rfl ?_
      refine LJ_nil ?_
      refine QJ_in_normal ?_
      refine QJ_then ?_
      refine CJ_reg ?_
      first | refine LJ_y rfl rfl (YJ_bin rfl rfl (iop_add (by omega))) ?_ | refine LJ_y rfl rfl (YJ_bin rfl rfl rfl) ?_
      refine LJ_y rfl rfl (YJ_move rfl) ?_
      refine LJ_nil ?_
      refine QJ_thenN ?_
      refine CN_succ ?_
      refine CJ_seq ?_
      refine CJ_reg ?_
      refine LJ_y rfl rfl (YJ_bin rfl rfl rfl) ?_
      refine LJ_nil ?_
      refine QJ_then ?_
      refine CJ_seq ?_
      refine CJ_condT rfl ?_
      refine CJ_skip ?_
      refine QJ_then ?_
      refine CJ_seq ?_
      refine CJ_block ?_
      refine CJ_seq ?_
      refine CJ_reg ?_
      refine LJ_y rfl rfl (YJ_index1 rfl rfl arrt_34 tyi_3 (by omega) (by omega) rfl) ?_
      refine LJ_y rfl rfl (YJ_assign rfl) ?_
      refine LJ_nil ?_
      refine QJ_then ?_
      refine CJ_seq ?_
      refine CJ_reg ?_
      refine LJ_y rfl rfl (YJ_move rfl) ?_
      refine LJ_y rfl rfl (YJ_bin rfl rfl rfl) ?_
      refine LJ_nil ?_
      refine QJ_then ?_
      refine CJ_cond rfl (fun h73 => ?_) (fun h73 => ?_)
      · try simp only [decide_eq_true_eq, decide_eq_false_iff_not, Bool.not_eq_true', Bool.not_eq_false', Bool.and_eq_true, Bool.and_eq_false_iff, beq_iff_eq, bne_iff_ne, beq_eq_false_iff_ne, bne_eq_false_iff_eq, ne_eq, decide_eq_decide] at h73
        refine CJ_reg ?_
        refine LJ_y rfl rfl (YJ_move rfl) ?_
        refine LJ_y rfl rfl (YJ_nilCheck rfl) ?_
        first | refine LJ_y rfl rfl (YJ_fieldOwn rfl fld_57_3 rfl) ?_ | refine LJ_y rfl rfl (YJ_fieldAddr rfl fld_57_3) ?_
        first | refine LJ_y rfl rfl (YJ_loadL rfl tyi_55 (by repeat first | exact .head _ | apply List.Mem.tail) rfl) ?_ | refine LJ_y rfl rfl (YJ_loadFact rfl tyi_55 (by repeat first | exact .head _ | apply List.Mem.tail) rfl) ?_
        refine LJ_y rfl rfl (YJ_move rfl) ?_
        refine LJ_y rfl rfl (YJ_move rfl) ?_
        refine LJ_val (v := .int .i64 nn) (by first | rfl | rw [hnn]) ?_
        refine LJ_y rfl rfl (YJ_ixOwn rfl rfl elt_55 (by omega) (by omega)) ?_
        refine LJ_storeRow (off := b.toNat) (xs' := Iv (setAt (setAt M.ats a nn) b nn)) (μ' := (_ :: _ :: _ :: _ :: _ :: _ :: _)) 5 rfl rfl rfl (addr_eq (by omega)) rfl tyi_3 rfl (by simp only [Iv_len, setAt_len]; omega) rfl (Iv_setAt (by omega) (by first | omega | (simp only [setAt_len]; omega)) rfl) (by simp only [Iv_len, setAt_len]; omega) rfl ?_
        refine LJ_nil ?_
        refine QJ_in_normal ?_
        refine QJ_then ?_
        refine CJ_reg ?_
        first | refine LJ_y rfl rfl (YJ_bin rfl rfl (iop_add (by omega))) ?_ | refine LJ_y rfl rfl (YJ_bin rfl rfl rfl) ?_
        refine LJ_y rfl rfl (YJ_move rfl) ?_
        refine LJ_nil ?_
        refine QJ_thenN ?_
        refine CN_succ ?_
        refine CJ_seq ?_
        refine CJ_reg ?_
        refine LJ_y rfl rfl (YJ_bin rfl rfl rfl) ?_
        refine LJ_nil ?_
        refine QJ_then ?_
        refine CJ_seq ?_
        refine CJ_condT rfl ?_
        refine CJ_skip ?_
        refine QJ_then ?_
        refine CJ_seq ?_
        refine CJ_block ?_
        refine CJ_seq ?_
        refine CJ_reg ?_
        refine LJ_y rfl rfl (YJ_index1 rfl rfl arrt_34 tyi_3 (by omega) (by omega) rfl) ?_
        refine LJ_y rfl rfl (YJ_assign rfl) ?_
        refine LJ_nil ?_
        refine QJ_then ?_
        refine CJ_seq ?_
        refine CJ_reg ?_
        refine LJ_y rfl rfl (YJ_move rfl) ?_
        refine LJ_y rfl rfl (YJ_bin rfl rfl rfl) ?_
        refine LJ_nil ?_
        refine QJ_then ?_
        refine CJ_cond rfl (fun h73 => ?_) (fun h73 => ?_)
        · try simp only [decide_eq_true_eq, decide_eq_false_iff_not, Bool.not_eq_true', Bool.not_eq_false', Bool.and_eq_true, Bool.and_eq_false_iff, beq_iff_eq, bne_iff_ne, beq_eq_false_iff_ne, bne_eq_false_iff_eq, ne_eq, decide_eq_decide] at h73
          refine CJ_reg ?_
          refine LJ_y rfl rfl (YJ_move rfl) ?_
          refine LJ_y rfl rfl (YJ_nilCheck rfl) ?_
          first | refine LJ_y rfl rfl (YJ_fieldOwn rfl fld_57_3 rfl) ?_ | refine LJ_y rfl rfl (YJ_fieldAddr rfl fld_57_3) ?_
          first | refine LJ_y rfl rfl (YJ_loadL rfl tyi_55 (by repeat first | exact .head _ | apply List.Mem.tail) rfl) ?_ | refine LJ_y rfl rfl (YJ_loadFact rfl tyi_55 (by repeat first | exact .head _ | apply List.Mem.tail) rfl) ?_
          refine LJ_y rfl rfl (YJ_move rfl) ?_
          refine LJ_y rfl rfl (YJ_move rfl) ?_
          refine LJ_val (v := .int .i64 nn) (by first | rfl | rw [hnn]) ?_
          refine LJ_y rfl rfl (YJ_ixOwn rfl rfl elt_55 (by omega) (by omega)) ?_
          refine LJ_storeRow (off := c.toNat) (xs' := Iv (setAt (setAt (setAt M.ats a nn) b nn) c nn)) (μ' := (_ :: _ :: _ :: _ :: _ :: _ :: _)) 5 rfl rfl rfl (addr_eq (by omega)) rfl tyi_3 rfl (by simp only [Iv_len, setAt_len]; omega) rfl (Iv_setAt (by omega) (by first | omega | (simp only [setAt_len]; omega)) rfl) (by simp only [Iv_len, setAt_len]; omega) rfl ?_
          refine LJ_nil ?_
          refine QJ_in_normal ?_
          refine QJ_then ?_
          refine CJ_reg ?_
          first | refine LJ_y rfl rfl (YJ_bin rfl rfl (iop_add (by omega))) ?_ | refine LJ_y rfl rfl (YJ_bin rfl rfl rfl) ?_
          refine LJ_y rfl rfl (YJ_move rfl) ?_
          refine LJ_nil ?_
          refine QJ_thenN ?_
          refine CN_succ ?_
          refine CJ_seq ?_
          refine CJ_reg ?_
          refine LJ_y rfl rfl (YJ_bin rfl rfl rfl) ?_
          refine LJ_nil ?_
          refine QJ_then ?_
          refine CJ_seq ?_
          refine CJ_condF rfl ?_
          refine CJ_exit ?_
          refine QJ_then_exit ?_
          refine QJ_then_exit ?_
          refine QJ_in_exit ?_
          refine QJ_then ?_
          refine CJ_seq ?_
          refine CJ_reg ?_
          refine LJ_y rfl rfl (YJ_move rfl) ?_
          refine LJ_y rfl rfl (YJ_assign rfl) ?_
          refine LJ_nil ?_
          refine QJ_then ?_
          refine CJ_ret ?_
          refine QJ_closeMesh (M.make a b c) (permI [1, 1, 1, 1, 1] rfl) ⟨rfl, rfl⟩ ⟨by simp [MD.make, hk1], by simp [MD.make, hk1]⟩ ⟨by simp [MD.make], rfl⟩ ⟨by simp [MD.make, setAt_len], by simp [MD.make, MD.nextN, hk1]⟩ ?_
          exact QJ_fin (.inl rfl) (μ' := [_]) (μr := [_]) (φ' := []) (res_tmp rfl rfl) (List.Perm.refl _) (fun _ h => nomatch h) ⟨congrArg (Value.int .i64) (by simp [MD.nextN, hk1]), rfl, rfl⟩
        · try simp only [decide_eq_true_eq, decide_eq_false_iff_not, Bool.not_eq_true', Bool.not_eq_false', Bool.and_eq_true, Bool.and_eq_false_iff, beq_iff_eq, bne_iff_ne, beq_eq_false_iff_ne, bne_eq_false_iff_eq, ne_eq, decide_eq_decide] at h73
          refine CJ_turnK (k := 5) (r' := rowR 3 1 (some ⟨gA, 0, none⟩) M.ats.length cA (Iv (setAt (setAt (setAt M.ats a nn) b nn) c nn))) rfl (fun w S q => by rw [show setAt (setAt (setAt M.ats a nn) b nn) c nn = setAt (setAt M.ats a nn) b nn from if_neg (by omega)]; exact q) ?_
          refine CJ_skip ?_
          refine QJ_in_normal ?_
          refine QJ_then ?_
          refine CJ_reg ?_
          first | refine LJ_y rfl rfl (YJ_bin rfl rfl (iop_add (by omega))) ?_ | refine LJ_y rfl rfl (YJ_bin rfl rfl rfl) ?_
          refine LJ_y rfl rfl (YJ_move rfl) ?_
          refine LJ_nil ?_
          refine QJ_thenN ?_
          refine CN_succ ?_
          refine CJ_seq ?_
          refine CJ_reg ?_
          refine LJ_y rfl rfl (YJ_bin rfl rfl rfl) ?_
          refine LJ_nil ?_
          refine QJ_then ?_
          refine CJ_seq ?_
          refine CJ_condF rfl ?_
          refine CJ_exit ?_
          refine QJ_then_exit ?_
          refine QJ_then_exit ?_
          refine QJ_in_exit ?_
          refine QJ_then ?_
          refine CJ_seq ?_
          refine CJ_reg ?_
          refine LJ_y rfl rfl (YJ_move rfl) ?_
          refine LJ_y rfl rfl (YJ_assign rfl) ?_
          refine LJ_nil ?_
          refine QJ_then ?_
          refine CJ_ret ?_
          refine QJ_closeMesh (M.make a b c) (permI [1, 1, 1, 1, 1] rfl) ⟨rfl, rfl⟩ ⟨by simp [MD.make, hk1], by simp [MD.make, hk1]⟩ ⟨by simp [MD.make], rfl⟩ ⟨by simp [MD.make, setAt_len], by simp [MD.make, MD.nextN, hk1]⟩ ?_
          exact QJ_fin (.inl rfl) (μ' := [_]) (μr := [_]) (φ' := []) (res_tmp rfl rfl) (List.Perm.refl _) (fun _ h => nomatch h) ⟨congrArg (Value.int .i64) (by simp [MD.nextN, hk1]), rfl, rfl⟩
      · try simp only [decide_eq_true_eq, decide_eq_false_iff_not, Bool.not_eq_true', Bool.not_eq_false', Bool.and_eq_true, Bool.and_eq_false_iff, beq_iff_eq, bne_iff_ne, beq_eq_false_iff_ne, bne_eq_false_iff_eq, ne_eq, decide_eq_decide] at h73
        refine CJ_turnK (k := 5) (r' := rowR 3 1 (some ⟨gA, 0, none⟩) M.ats.length cA (Iv (setAt (setAt M.ats a nn) b nn))) rfl (fun w S q => by rw [show setAt (setAt M.ats a nn) b nn = setAt M.ats a nn from if_neg (by omega)]; exact q) ?_
        refine CJ_skip ?_
        refine QJ_in_normal ?_
        refine QJ_then ?_
        refine CJ_reg ?_
        first | refine LJ_y rfl rfl (YJ_bin rfl rfl (iop_add (by omega))) ?_ | refine LJ_y rfl rfl (YJ_bin rfl rfl rfl) ?_
        refine LJ_y rfl rfl (YJ_move rfl) ?_
        refine LJ_nil ?_
        refine QJ_thenN ?_
        refine CN_succ ?_
        refine CJ_seq ?_
        refine CJ_reg ?_
        refine LJ_y rfl rfl (YJ_bin rfl rfl rfl) ?_
        refine LJ_nil ?_
        refine QJ_then ?_
        refine CJ_seq ?_
        refine CJ_condT rfl ?_
        refine CJ_skip ?_
        refine QJ_then ?_
        refine CJ_seq ?_
        refine CJ_block ?_
        refine CJ_seq ?_
        refine CJ_reg ?_
        refine LJ_y rfl rfl (YJ_index1 rfl rfl arrt_34 tyi_3 (by omega) (by omega) rfl) ?_
        refine LJ_y rfl rfl (YJ_assign rfl) ?_
        refine LJ_nil ?_
        refine QJ_then ?_
        refine CJ_seq ?_
        refine CJ_reg ?_
        refine LJ_y rfl rfl (YJ_move rfl) ?_
        refine LJ_y rfl rfl (YJ_bin rfl rfl rfl) ?_
        refine LJ_nil ?_
        refine QJ_then ?_
        refine CJ_cond rfl (fun h73 => ?_) (fun h73 => ?_)
        · try simp only [decide_eq_true_eq, decide_eq_false_iff_not, Bool.not_eq_true', Bool.not_eq_false', Bool.and_eq_true, Bool.and_eq_false_iff, beq_iff_eq, bne_iff_ne, beq_eq_false_iff_ne, bne_eq_false_iff_eq, ne_eq, decide_eq_decide] at h73
          refine CJ_reg ?_
          refine LJ_y rfl rfl (YJ_move rfl) ?_
          refine LJ_y rfl rfl (YJ_nilCheck rfl) ?_
          first | refine LJ_y rfl rfl (YJ_fieldOwn rfl fld_57_3 rfl) ?_ | refine LJ_y rfl rfl (YJ_fieldAddr rfl fld_57_3) ?_
          first | refine LJ_y rfl rfl (YJ_loadL rfl tyi_55 (by repeat first | exact .head _ | apply List.Mem.tail) rfl) ?_ | refine LJ_y rfl rfl (YJ_loadFact rfl tyi_55 (by repeat first | exact .head _ | apply List.Mem.tail) rfl) ?_
          refine LJ_y rfl rfl (YJ_move rfl) ?_
          refine LJ_y rfl rfl (YJ_move rfl) ?_
          refine LJ_val (v := .int .i64 nn) (by first | rfl | rw [hnn]) ?_
          refine LJ_y rfl rfl (YJ_ixOwn rfl rfl elt_55 (by omega) (by omega)) ?_
          refine LJ_storeRow (off := c.toNat) (xs' := Iv (setAt (setAt (setAt M.ats a nn) b nn) c nn)) (μ' := (_ :: _ :: _ :: _ :: _ :: _ :: _)) 5 rfl rfl rfl (addr_eq (by omega)) rfl tyi_3 rfl (by simp only [Iv_len, setAt_len]; omega) rfl (Iv_setAt (by omega) (by first | omega | (simp only [setAt_len]; omega)) rfl) (by simp only [Iv_len, setAt_len]; omega) rfl ?_
          refine LJ_nil ?_
          refine QJ_in_normal ?_
          refine QJ_then ?_
          refine CJ_reg ?_
          first | refine LJ_y rfl rfl (YJ_bin rfl rfl (iop_add (by omega))) ?_ | refine LJ_y rfl rfl (YJ_bin rfl rfl rfl) ?_
          refine LJ_y rfl rfl (YJ_move rfl) ?_
          refine LJ_nil ?_
          refine QJ_thenN ?_
          refine CN_succ ?_
          refine CJ_seq ?_
          refine CJ_reg ?_
          refine LJ_y rfl rfl (YJ_bin rfl rfl rfl) ?_
          refine LJ_nil ?_
          refine QJ_then ?_
          refine CJ_seq ?_
          refine CJ_condF rfl ?_
          refine CJ_exit ?_
          refine QJ_then_exit ?_
          refine QJ_then_exit ?_
          refine QJ_in_exit ?_
          refine QJ_then ?_
          refine CJ_seq ?_
          refine CJ_reg ?_
          refine LJ_y rfl rfl (YJ_move rfl) ?_
          refine LJ_y rfl rfl (YJ_assign rfl) ?_
          refine LJ_nil ?_
          refine QJ_then ?_
          refine CJ_ret ?_
          refine QJ_closeMesh (M.make a b c) (permI [1, 1, 1, 1, 1] rfl) ⟨rfl, rfl⟩ ⟨by simp [MD.make, hk1], by simp [MD.make, hk1]⟩ ⟨by simp [MD.make], rfl⟩ ⟨by simp [MD.make, setAt_len], by simp [MD.make, MD.nextN, hk1]⟩ ?_
          exact QJ_fin (.inl rfl) (μ' := [_]) (μr := [_]) (φ' := []) (res_tmp rfl rfl) (List.Perm.refl _) (fun _ h => nomatch h) ⟨congrArg (Value.int .i64) (by simp [MD.nextN, hk1]), rfl, rfl⟩
        · try simp only [decide_eq_true_eq, decide_eq_false_iff_not, Bool.not_eq_true', Bool.not_eq_false', Bool.and_eq_true, Bool.and_eq_false_iff, beq_iff_eq, bne_iff_ne, beq_eq_false_iff_ne, bne_eq_false_iff_eq, ne_eq, decide_eq_decide] at h73
          refine CJ_turnK (k := 5) (r' := rowR 3 1 (some ⟨gA, 0, none⟩) M.ats.length cA (Iv (setAt (setAt (setAt M.ats a nn) b nn) c nn))) rfl (fun w S q => by rw [show setAt (setAt (setAt M.ats a nn) b nn) c nn = setAt (setAt M.ats a nn) b nn from if_neg (by omega)]; exact q) ?_
          refine CJ_skip ?_
          refine QJ_in_normal ?_
          refine QJ_then ?_
          refine CJ_reg ?_
          first | refine LJ_y rfl rfl (YJ_bin rfl rfl (iop_add (by omega))) ?_ | refine LJ_y rfl rfl (YJ_bin rfl rfl rfl) ?_
          refine LJ_y rfl rfl (YJ_move rfl) ?_
          refine LJ_nil ?_
          refine QJ_thenN ?_
          refine CN_succ ?_
          refine CJ_seq ?_
          refine CJ_reg ?_
          refine LJ_y rfl rfl (YJ_bin rfl rfl rfl) ?_
          refine LJ_nil ?_
          refine QJ_then ?_
          refine CJ_seq ?_
          refine CJ_condF rfl ?_
          refine CJ_exit ?_
          refine QJ_then_exit ?_
          refine QJ_then_exit ?_
          refine QJ_in_exit ?_
          refine QJ_then ?_
          refine CJ_seq ?_
          refine CJ_reg ?_
          refine LJ_y rfl rfl (YJ_move rfl) ?_
          refine LJ_y rfl rfl (YJ_assign rfl) ?_
          refine LJ_nil ?_
          refine QJ_then ?_
          refine CJ_ret ?_
          refine QJ_closeMesh (M.make a b c) (permI [1, 1, 1, 1, 1] rfl) ⟨rfl, rfl⟩ ⟨by simp [MD.make, hk1], by simp [MD.make, hk1]⟩ ⟨by simp [MD.make], rfl⟩ ⟨by simp [MD.make, setAt_len], by simp [MD.make, MD.nextN, hk1]⟩ ?_
          exact QJ_fin (.inl rfl) (μ' := [_]) (μr := [_]) (φ' := []) (res_tmp rfl rfl) (List.Perm.refl _) (fun _ h => nomatch h) ⟨congrArg (Value.int .i64) (by simp [MD.nextN, hk1]), rfl, rfl⟩
    · try simp only [decide_eq_true_eq, decide_eq_false_iff_not, Bool.not_eq_true', Bool.not_eq_false', Bool.and_eq_true, Bool.and_eq_false_iff, beq_iff_eq, bne_iff_ne, beq_eq_false_iff_ne, bne_eq_false_iff_eq, ne_eq, decide_eq_decide] at h73
      refine CJ_turnK (k := 5) (r' := rowR 3 1 (some ⟨gA, 0, none⟩) M.ats.length cA (Iv (setAt M.ats a nn))) rfl (fun w S q => by rw [show setAt M.ats a nn = M.ats from if_neg (by omega)]; exact q) ?_
      refine CJ_skip ?_
      refine QJ_in_normal ?_
      refine QJ_then ?_
      refine CJ_reg ?_
      first | refine LJ_y rfl rfl (YJ_bin rfl rfl (iop_add (by omega))) ?_ | refine LJ_y rfl rfl (YJ_bin rfl rfl rfl) ?_
      refine LJ_y rfl rfl (YJ_move rfl) ?_
      refine LJ_nil ?_
      refine QJ_thenN ?_
      refine CN_succ ?_
      refine CJ_seq ?_
      refine CJ_reg ?_
      refine LJ_y rfl rfl (YJ_bin rfl rfl rfl) ?_
      refine LJ_nil ?_
      refine QJ_then ?_
      refine CJ_seq ?_
      refine CJ_condT rfl ?_
      refine CJ_skip ?_
      refine QJ_then ?_
      refine CJ_seq ?_
      refine CJ_block ?_
      refine CJ_seq ?_
      refine CJ_reg ?_
      refine LJ_y rfl rfl (YJ_index1 rfl rfl arrt_34 tyi_3 (by omega) (by omega) rfl) ?_
      refine LJ_y rfl rfl (YJ_assign rfl) ?_
      refine LJ_nil ?_
      refine QJ_then ?_
      refine CJ_seq ?_
      refine CJ_reg ?_
      refine LJ_y rfl rfl (YJ_move rfl) ?_
      refine LJ_y rfl rfl (YJ_bin rfl rfl rfl) ?_
      refine LJ_nil ?_
      refine QJ_then ?_
      refine CJ_cond rfl (fun h73 => ?_) (fun h73 => ?_)
      · try simp only [decide_eq_true_eq, decide_eq_false_iff_not, Bool.not_eq_true', Bool.not_eq_false', Bool.and_eq_true, Bool.and_eq_false_iff, beq_iff_eq, bne_iff_ne, beq_eq_false_iff_ne, bne_eq_false_iff_eq, ne_eq, decide_eq_decide] at h73
        refine CJ_reg ?_
        refine LJ_y rfl rfl (YJ_move rfl) ?_
        refine LJ_y rfl rfl (YJ_nilCheck rfl) ?_
        first | refine LJ_y rfl rfl (YJ_fieldOwn rfl fld_57_3 rfl) ?_ | refine LJ_y rfl rfl (YJ_fieldAddr rfl fld_57_3) ?_
        first | refine LJ_y rfl rfl (YJ_loadL rfl tyi_55 (by repeat first | exact .head _ | apply List.Mem.tail) rfl) ?_ | refine LJ_y rfl rfl (YJ_loadFact rfl tyi_55 (by repeat first | exact .head _ | apply List.Mem.tail) rfl) ?_
        refine LJ_y rfl rfl (YJ_move rfl) ?_
        refine LJ_y rfl rfl (YJ_move rfl) ?_
        refine LJ_val (v := .int .i64 nn) (by first | rfl | rw [hnn]) ?_
        refine LJ_y rfl rfl (YJ_ixOwn rfl rfl elt_55 (by omega) (by omega)) ?_
        refine LJ_storeRow (off := b.toNat) (xs' := Iv (setAt (setAt M.ats a nn) b nn)) (μ' := (_ :: _ :: _ :: _ :: _ :: _ :: _)) 5 rfl rfl rfl (addr_eq (by omega)) rfl tyi_3 rfl (by simp only [Iv_len, setAt_len]; omega) rfl (Iv_setAt (by omega) (by first | omega | (simp only [setAt_len]; omega)) rfl) (by simp only [Iv_len, setAt_len]; omega) rfl ?_
        refine LJ_nil ?_
        refine QJ_in_normal ?_
        refine QJ_then ?_
        refine CJ_reg ?_
        first | refine LJ_y rfl rfl (YJ_bin rfl rfl (iop_add (by omega))) ?_ | refine LJ_y rfl rfl (YJ_bin rfl rfl rfl) ?_
        refine LJ_y rfl rfl (YJ_move rfl) ?_
        refine LJ_nil ?_
        refine QJ_thenN ?_
        refine CN_succ ?_
        refine CJ_seq ?_
        refine CJ_reg ?_
        refine LJ_y rfl rfl (YJ_bin rfl rfl rfl) ?_
        refine LJ_nil ?_
        refine QJ_then ?_
        refine CJ_seq ?_
        refine CJ_condT rfl ?_
        refine CJ_skip ?_
        refine QJ_then ?_
        refine CJ_seq ?_
        refine CJ_block ?_
        refine CJ_seq ?_
        refine CJ_reg ?_
        refine LJ_y rfl rfl (YJ_index1 rfl rfl arrt_34 tyi_3 (by omega) (by omega) rfl) ?_
        refine LJ_y rfl rfl (YJ_assign rfl) ?_
        refine LJ_nil ?_
        refine QJ_then ?_
        refine CJ_seq ?_
        refine CJ_reg ?_
        refine LJ_y rfl rfl (YJ_move rfl) ?_
        refine LJ_y rfl rfl (YJ_bin rfl rfl rfl) ?_
        refine LJ_nil ?_
        refine QJ_then ?_
        refine CJ_cond rfl (fun h73 => ?_) (fun h73 => ?_)
        · try simp only [decide_eq_true_eq, decide_eq_false_iff_not, Bool.not_eq_true', Bool.not_eq_false', Bool.and_eq_true, Bool.and_eq_false_iff, beq_iff_eq, bne_iff_ne, beq_eq_false_iff_ne, bne_eq_false_iff_eq, ne_eq, decide_eq_decide] at h73
          refine CJ_reg ?_
          refine LJ_y rfl rfl (YJ_move rfl) ?_
          refine LJ_y rfl rfl (YJ_nilCheck rfl) ?_
          first | refine LJ_y rfl rfl (YJ_fieldOwn rfl fld_57_3 rfl) ?_ | refine LJ_y rfl rfl (YJ_fieldAddr rfl fld_57_3) ?_
          first | refine LJ_y rfl rfl (YJ_loadL rfl tyi_55 (by repeat first | exact .head _ | apply List.Mem.tail) rfl) ?_ | refine LJ_y rfl rfl (YJ_loadFact rfl tyi_55 (by repeat first | exact .head _ | apply List.Mem.tail) rfl) ?_
          refine LJ_y rfl rfl (YJ_move rfl) ?_
          refine LJ_y rfl rfl (YJ_move rfl) ?_
          refine LJ_val (v := .int .i64 nn) (by first | rfl | rw [hnn]) ?_
          refine LJ_y rfl rfl (YJ_ixOwn rfl rfl elt_55 (by omega) (by omega)) ?_
          refine LJ_storeRow (off := c.toNat) (xs' := Iv (setAt (setAt (setAt M.ats a nn) b nn) c nn)) (μ' := (_ :: _ :: _ :: _ :: _ :: _ :: _)) 5 rfl rfl rfl (addr_eq (by omega)) rfl tyi_3 rfl (by simp only [Iv_len, setAt_len]; omega) rfl (Iv_setAt (by omega) (by first | omega | (simp only [setAt_len]; omega)) rfl) (by simp only [Iv_len, setAt_len]; omega) rfl ?_
          refine LJ_nil ?_
          refine QJ_in_normal ?_
          refine QJ_then ?_
          refine CJ_reg ?_
          first | refine LJ_y rfl rfl (YJ_bin rfl rfl (iop_add (by omega))) ?_ | refine LJ_y rfl rfl (YJ_bin rfl rfl rfl) ?_
          refine LJ_y rfl rfl (YJ_move rfl) ?_
          refine LJ_nil ?_
          refine QJ_thenN ?_
          refine CN_succ ?_
          refine CJ_seq ?_
          refine CJ_reg ?_
          refine LJ_y rfl rfl (YJ_bin rfl rfl rfl) ?_
          refine LJ_nil ?_
          refine QJ_then ?_
          refine CJ_seq ?_
          refine CJ_condF rfl ?_
          refine CJ_exit ?_
          refine QJ_then_exit ?_
          refine QJ_then_exit ?_
          refine QJ_in_exit ?_
          refine QJ_then ?_
          refine CJ_seq ?_
          refine CJ_reg ?_
          refine LJ_y rfl rfl (YJ_move rfl) ?_
          refine LJ_y rfl rfl (YJ_assign rfl) ?_
          refine LJ_nil ?_
          refine QJ_then ?_
          refine CJ_ret ?_
          refine QJ_closeMesh (M.make a b c) (permI [1, 1, 1, 1, 1] rfl) ⟨rfl, rfl⟩ ⟨by simp [MD.make, hk1], by simp [MD.make, hk1]⟩ ⟨by simp [MD.make], rfl⟩ ⟨by simp [MD.make, setAt_len], by simp [MD.make, MD.nextN, hk1]⟩ ?_
          exact QJ_fin (.inl rfl) (μ' := [_]) (μr := [_]) (φ' := []) (res_tmp rfl rfl) (List.Perm.refl _) (fun _ h => nomatch h) ⟨congrArg (Value.int .i64) (by simp [MD.nextN, hk1]), rfl, rfl⟩
        · try simp only [decide_eq_true_eq, decide_eq_false_iff_not, Bool.not_eq_true', Bool.not_eq_false', Bool.and_eq_true, Bool.and_eq_false_iff, beq_iff_eq, bne_iff_ne, beq_eq_false_iff_ne, bne_eq_false_iff_eq, ne_eq, decide_eq_decide] at h73
          refine CJ_turnK (k := 5) (r' := rowR 3 1 (some ⟨gA, 0, none⟩) M.ats.length cA (Iv (setAt (setAt (setAt M.ats a nn) b nn) c nn))) rfl (fun w S q => by rw [show setAt (setAt (setAt M.ats a nn) b nn) c nn = setAt (setAt M.ats a nn) b nn from if_neg (by omega)]; exact q) ?_
          refine CJ_skip ?_
          refine QJ_in_normal ?_
          refine QJ_then ?_
          refine CJ_reg ?_
          first | refine LJ_y rfl rfl (YJ_bin rfl rfl (iop_add (by omega))) ?_ | refine LJ_y rfl rfl (YJ_bin rfl rfl rfl) ?_
          refine LJ_y rfl rfl (YJ_move rfl) ?_
          refine LJ_nil ?_
          refine QJ_thenN ?_
          refine CN_succ ?_
          refine CJ_seq ?_
          refine CJ_reg ?_
          refine LJ_y rfl rfl (YJ_bin rfl rfl rfl) ?_
          refine LJ_nil ?_
          refine QJ_then ?_
          refine CJ_seq ?_
          refine CJ_condF rfl ?_
          refine CJ_exit ?_
          refine QJ_then_exit ?_
          refine QJ_then_exit ?_
          refine QJ_in_exit ?_
          refine QJ_then ?_
          refine CJ_seq ?_
          refine CJ_reg ?_
          refine LJ_y rfl rfl (YJ_move rfl) ?_
          refine LJ_y rfl rfl (YJ_assign rfl) ?_
          refine LJ_nil ?_
          refine QJ_then ?_
          refine CJ_ret ?_
          refine QJ_closeMesh (M.make a b c) (permI [1, 1, 1, 1, 1] rfl) ⟨rfl, rfl⟩ ⟨by simp [MD.make, hk1], by simp [MD.make, hk1]⟩ ⟨by simp [MD.make], rfl⟩ ⟨by simp [MD.make, setAt_len], by simp [MD.make, MD.nextN, hk1]⟩ ?_
          exact QJ_fin (.inl rfl) (μ' := [_]) (μr := [_]) (φ' := []) (res_tmp rfl rfl) (List.Perm.refl _) (fun _ h => nomatch h) ⟨congrArg (Value.int .i64) (by simp [MD.nextN, hk1]), rfl, rfl⟩
      · try simp only [decide_eq_true_eq, decide_eq_false_iff_not, Bool.not_eq_true', Bool.not_eq_false', Bool.and_eq_true, Bool.and_eq_false_iff, beq_iff_eq, bne_iff_ne, beq_eq_false_iff_ne, bne_eq_false_iff_eq, ne_eq, decide_eq_decide] at h73
        refine CJ_turnK (k := 5) (r' := rowR 3 1 (some ⟨gA, 0, none⟩) M.ats.length cA (Iv (setAt (setAt M.ats a nn) b nn))) rfl (fun w S q => by rw [show setAt (setAt M.ats a nn) b nn = setAt M.ats a nn from if_neg (by omega)]; exact q) ?_
        refine CJ_skip ?_
        refine QJ_in_normal ?_
        refine QJ_then ?_
        refine CJ_reg ?_
        first | refine LJ_y rfl rfl (YJ_bin rfl rfl (iop_add (by omega))) ?_ | refine LJ_y rfl rfl (YJ_bin rfl rfl rfl) ?_
        refine LJ_y rfl rfl (YJ_move rfl) ?_
        refine LJ_nil ?_
        refine QJ_thenN ?_
        refine CN_succ ?_
        refine CJ_seq ?_
        refine CJ_reg ?_
        refine LJ_y rfl rfl (YJ_bin rfl rfl rfl) ?_
        refine LJ_nil ?_
        refine QJ_then ?_
        refine CJ_seq ?_
        refine CJ_condT rfl ?_
        refine CJ_skip ?_
        refine QJ_then ?_
        refine CJ_seq ?_
        refine CJ_block ?_
        refine CJ_seq ?_
        refine CJ_reg ?_
        refine LJ_y rfl rfl (YJ_index1 rfl rfl arrt_34 tyi_3 (by omega) (by omega) rfl) ?_
        refine LJ_y rfl rfl (YJ_assign rfl) ?_
        refine LJ_nil ?_
        refine QJ_then ?_
        refine CJ_seq ?_
        refine CJ_reg ?_
        refine LJ_y rfl rfl (YJ_move rfl) ?_
        refine LJ_y rfl rfl (YJ_bin rfl rfl rfl) ?_
        refine LJ_nil ?_
        refine QJ_then ?_
        refine CJ_cond rfl (fun h73 => ?_) (fun h73 => ?_)
        · try simp only [decide_eq_true_eq, decide_eq_false_iff_not, Bool.not_eq_true', Bool.not_eq_false', Bool.and_eq_true, Bool.and_eq_false_iff, beq_iff_eq, bne_iff_ne, beq_eq_false_iff_ne, bne_eq_false_iff_eq, ne_eq, decide_eq_decide] at h73
          refine CJ_reg ?_
          refine LJ_y rfl rfl (YJ_move rfl) ?_
          refine LJ_y rfl rfl (YJ_nilCheck rfl) ?_
          first | refine LJ_y rfl rfl (YJ_fieldOwn rfl fld_57_3 rfl) ?_ | refine LJ_y rfl rfl (YJ_fieldAddr rfl fld_57_3) ?_
          first | refine LJ_y rfl rfl (YJ_loadL rfl tyi_55 (by repeat first | exact .head _ | apply List.Mem.tail) rfl) ?_ | refine LJ_y rfl rfl (YJ_loadFact rfl tyi_55 (by repeat first | exact .head _ | apply List.Mem.tail) rfl) ?_
          refine LJ_y rfl rfl (YJ_move rfl) ?_
          refine LJ_y rfl rfl (YJ_move rfl) ?_
          refine LJ_val (v := .int .i64 nn) (by first | rfl | rw [hnn]) ?_
          refine LJ_y rfl rfl (YJ_ixOwn rfl rfl elt_55 (by omega) (by omega)) ?_
          refine LJ_storeRow (off := c.toNat) (xs' := Iv (setAt (setAt (setAt M.ats a nn) b nn) c nn)) (μ' := (_ :: _ :: _ :: _ :: _ :: _ :: _)) 5 rfl rfl rfl (addr_eq (by omega)) rfl tyi_3 rfl (by simp only [Iv_len, setAt_len]; omega) rfl (Iv_setAt (by omega) (by first | omega | (simp only [setAt_len]; omega)) rfl) (by simp only [Iv_len, setAt_len]; omega) rfl ?_
          refine LJ_nil ?_
          refine QJ_in_normal ?_
          refine QJ_then ?_
          refine CJ_reg ?_
          first | refine LJ_y rfl rfl (YJ_bin rfl rfl (iop_add (by omega))) ?_ | refine LJ_y rfl rfl (YJ_bin rfl rfl rfl) ?_
          refine LJ_y rfl rfl (YJ_move rfl) ?_
          refine LJ_nil ?_
          refine QJ_thenN ?_
          refine CN_succ ?_
          refine CJ_seq ?_
          refine CJ_reg ?_
          refine LJ_y rfl rfl (YJ_bin rfl rfl rfl) ?_
          refine LJ_nil ?_
          refine QJ_then ?_
          refine CJ_seq ?_
          refine CJ_condF rfl ?_
          refine CJ_exit ?_
          refine QJ_then_exit ?_
          refine QJ_then_exit ?_
          refine QJ_in_exit ?_
          refine QJ_then ?_
          refine CJ_seq ?_
          refine CJ_reg ?_
          refine LJ_y rfl rfl (YJ_move rfl) ?_
          refine LJ_y rfl rfl (YJ_assign rfl) ?_
          refine LJ_nil ?_
          refine QJ_then ?_
          refine CJ_ret ?_
          refine QJ_closeMesh (M.make a b c) (permI [1, 1, 1, 1, 1] rfl) ⟨rfl, rfl⟩ ⟨by simp [MD.make, hk1], by simp [MD.make, hk1]⟩ ⟨by simp [MD.make], rfl⟩ ⟨by simp [MD.make, setAt_len], by simp [MD.make, MD.nextN, hk1]⟩ ?_
          exact QJ_fin (.inl rfl) (μ' := [_]) (μr := [_]) (φ' := []) (res_tmp rfl rfl) (List.Perm.refl _) (fun _ h => nomatch h) ⟨congrArg (Value.int .i64) (by simp [MD.nextN, hk1]), rfl, rfl⟩
        · try simp only [decide_eq_true_eq, decide_eq_false_iff_not, Bool.not_eq_true', Bool.not_eq_false', Bool.and_eq_true, Bool.and_eq_false_iff, beq_iff_eq, bne_iff_ne, beq_eq_false_iff_ne, bne_eq_false_iff_eq, ne_eq, decide_eq_decide] at h73
          refine CJ_turnK (k := 5) (r' := rowR 3 1 (some ⟨gA, 0, none⟩) M.ats.length cA (Iv (setAt (setAt (setAt M.ats a nn) b nn) c nn))) rfl (fun w S q => by rw [show setAt (setAt (setAt M.ats a nn) b nn) c nn = setAt (setAt M.ats a nn) b nn from if_neg (by omega)]; exact q) ?_
          refine CJ_skip ?_
          refine QJ_in_normal ?_
          refine QJ_then ?_
          refine CJ_reg ?_
          first | refine LJ_y rfl rfl (YJ_bin rfl rfl (iop_add (by omega))) ?_ | refine LJ_y rfl rfl (YJ_bin rfl rfl rfl) ?_
          refine LJ_y rfl rfl (YJ_move rfl) ?_
          refine LJ_nil ?_
          refine QJ_thenN ?_
          refine CN_succ ?_
          refine CJ_seq ?_
          refine CJ_reg ?_
          refine LJ_y rfl rfl (YJ_bin rfl rfl rfl) ?_
          refine LJ_nil ?_
          refine QJ_then ?_
          refine CJ_seq ?_
          refine CJ_condF rfl ?_
          refine CJ_exit ?_
          refine QJ_then_exit ?_
          refine QJ_then_exit ?_
          refine QJ_in_exit ?_
          refine QJ_then ?_
          refine CJ_seq ?_
          refine CJ_reg ?_
          refine LJ_y rfl rfl (YJ_move rfl) ?_
          refine LJ_y rfl rfl (YJ_assign rfl) ?_
          refine LJ_nil ?_
          refine QJ_then ?_
          refine CJ_ret ?_
          refine QJ_closeMesh (M.make a b c) (permI [1, 1, 1, 1, 1] rfl) ⟨rfl, rfl⟩ ⟨by simp [MD.make, hk1], by simp [MD.make, hk1]⟩ ⟨by simp [MD.make], rfl⟩ ⟨by simp [MD.make, setAt_len], by simp [MD.make, MD.nextN, hk1]⟩ ?_
          exact QJ_fin (.inl rfl) (μ' := [_]) (μr := [_]) (φ' := []) (res_tmp rfl rfl) (List.Perm.refl _) (fun _ h => nomatch h) ⟨congrArg (Value.int .i64) (by simp [MD.nextN, hk1]), rfl, rfl⟩
  · try simp only [decide_eq_true_eq, decide_eq_false_iff_not, Bool.not_eq_true', Bool.not_eq_false', Bool.and_eq_true, Bool.and_eq_false_iff, beq_iff_eq, bne_iff_ne, beq_eq_false_iff_ne, bne_eq_false_iff_eq, ne_eq, decide_eq_decide] at h31
    have hf0 : M.free = [] := List.eq_nil_of_length_eq_zero (by omega)
    obtain ⟨nn, hnn⟩ : ∃ x : Int, (M.tris.length : Int) = x := ⟨_, rfl⟩
    refine CJ_regM mix (by kernel_rfl) (fun _ _ _ _ _ h => h) [[], [10], [], [7, 10], [], []] ?_
    refine BJ_y 0 rfl (by kernel_rfl) (by kernel_rfl) (by kernel_rfl) rfl rfl (YJ_move rfl) ?_
    refine BJ_y 1 rfl (by kernel_rfl) (by kernel_rfl) (by kernel_rfl) rfl rfl (YJ_move rfl) ?_
    refine BJ_y 2 rfl (by kernel_rfl) (by kernel_rfl) (by kernel_rfl) rfl rfl (YJ_nilCheck rfl) ?_
    first | refine BJ_y 3 rfl (by kernel_rfl) (by kernel_rfl) (by kernel_rfl) rfl rfl (YJ_fieldOwn rfl fld_57_1 rfl) ?_ | refine BJ_y 3 rfl (by kernel_rfl) (by kernel_rfl) (by kernel_rfl) rfl rfl (YJ_fieldAddr rfl fld_57_1) ?_
    first | refine BJ_l 4 1 rfl (by kernel_rfl) (by kernel_rfl) (by kernel_rfl) rfl (by kernel_rfl) (by repeat first | exact .head _ | apply List.Mem.tail) rfl rfl (YJ_loadL rfl tyi_54 (by repeat first | exact .head _ | apply List.Mem.tail) rfl) ?_ | refine BJ_l 4 1 rfl (by kernel_rfl) (by kernel_rfl) (by kernel_rfl) rfl (by kernel_rfl) (by repeat first | exact .head _ | apply List.Mem.tail) rfl rfl (YJ_loadFact rfl tyi_54 (by repeat first | exact .head _ | apply List.Mem.tail) rfl) ?_
    first | refine BJ_l 5 0 rfl (by kernel_rfl) (by kernel_rfl) (by kernel_rfl) rfl (by kernel_rfl) (by repeat first | exact .head _ | apply List.Mem.tail) rfl rfl (YJ_loadN (vs := [_, _, _, _, _, _, _, _, _]) rfl tyi_37 (by repeat first | exact .head _ | apply List.Mem.tail) rfl rfl) ?_ | refine BJ_l 5 0 rfl (by kernel_rfl) (by kernel_rfl) (by kernel_rfl) rfl (by kernel_rfl) (by repeat first | exact .head _ | apply List.Mem.tail) rfl rfl (YJ_loadFactN (vs := [_, _, _, _, _, _, _, _, _]) rfl tyi_37 (by repeat first | exact .head _ | apply List.Mem.tail) rfl rfl) ?_
    refine BJ_buildSlice (vs := [_]) (cs := [_, _, _, _, _, _, _, _, _]) 6 rfl (by kernel_rfl) rfl rfl elt_54 zer_37 (by decide) (by decide) rfl rfl rfl rfl rfl (fun b => (And.intro (.inr (by repeat first | exact .head _ | apply List.Mem.tail)) (And.intro (.inr (by repeat first | exact .head _ | apply List.Mem.tail)) (And.intro (.inr (by repeat first | exact .head _ | apply List.Mem.tail)) (And.intro (.inr (by repeat first | exact .head _ | apply List.Mem.tail)) (And.intro (.inr (by repeat first | exact .head _ | apply List.Mem.tail)) (And.intro (.inr (by repeat first | exact .head _ | apply List.Mem.tail)) (trivial)))))))) ?_
    intro b2
    refine BJ_append 7 4 rfl (by kernel_rfl) rfl rfl elt_54 zer_37 rfl rfl rfl rfl (Rd_own (by repeat first | exact .head _ | apply List.Mem.tail)) rfl rfl (by omega) (by omega) (by decide) (trCells_app M.tris (Tr.new a b c)) (fun _ _ => (And.intro (.inr (by repeat first | exact .head _ | apply List.Mem.tail)) (And.intro (.inr (by repeat first | exact .head _ | apply List.Mem.tail)) (And.intro (.inr (by repeat first | exact .head _ | apply List.Mem.tail)) (And.intro (.inl rfl) (And.intro (.inr (by repeat first | exact .head _ | apply List.Mem.tail)) (And.intro (.inr (by repeat first | exact .head _ | apply List.Mem.tail)) (trivial)))))))) ?_
    intro AT cAT
    show BJ _ _ _ _ _ _ _ _ (_ :: _ :: _ :: _ :: _ :: _ :: _ :: _) _
    refine BJ_y 8 rfl (by kernel_rfl) (by kernel_rfl) (by kernel_rfl) rfl rfl (YJ_nilCheck rfl) ?_
    first | refine BJ_y 9 rfl (by kernel_rfl) (by kernel_rfl) (by kernel_rfl) rfl rfl (YJ_fieldOwn rfl fld_57_1 rfl) ?_ | refine BJ_y 9 rfl (by kernel_rfl) (by kernel_rfl) (by kernel_rfl) rfl rfl (YJ_fieldAddr rfl fld_57_1) ?_
    refine BJ_store (cs' := #[_, _, _, _]) (μ' := [_, _, _, _, _, _, _]) 10 2 rfl (by kernel_rfl) rfl rfl rfl rfl tyi_54 rfl (Nat.le_of_ble_eq_true rfl) rfl rfl rfl (And.intro (.inr (by repeat first | exact .head _ | apply List.Mem.tail)) (And.intro (.inl rfl) (And.intro (.inr (by repeat first | exact .head _ | apply List.Mem.tail)) (And.intro (.inl rfl) (And.intro (.inr (by repeat first | exact .head _ | apply List.Mem.tail)) (And.intro (.inr (by repeat first | exact .head _ | apply List.Mem.tail)) (trivial))))))) ?_
    refine BJ_done (by kernel_rfl) ?_
    refine QJ_then ?_
    refine CJ_seq ?_
    refine CJ_seq ?_
    refine CJ_reg ?_
    first | refine LJ_y rfl rfl (YJ_fieldOwn rfl fld_37_0 rfl) ?_ | refine LJ_y rfl rfl (YJ_fieldAddr rfl fld_37_0) ?_
    first | refine LJ_y rfl rfl (YJ_loadN (vs := [_, _, _]) rfl tyi_34 (by repeat first | exact .head _ | apply List.Mem.tail) rfl rfl) ?_ | refine LJ_y rfl rfl (YJ_loadFactN (vs := [_, _, _]) rfl tyi_34 (by repeat first | exact .head _ | apply List.Mem.tail) rfl rfl) ?_
    refine LJ_y rfl rfl (YJ_move rfl) ?_
    refine LJ_nil ?_
    refine QJ_then ?_
    refine CJ_block ?_
    refine CJ_loopN 4 ?_
    refine CN_succ ?_
    refine CJ_seq ?_
    refine CJ_reg ?_
    refine LJ_y rfl rfl (YJ_bin rfl rfl rfl) ?_
    refine LJ_nil ?_
    refine QJ_then ?_
    refine CJ_seq ?_
    refine CJ_condT rfl ?_
    refine CJ_skip ?_
    refine QJ_then ?_
    refine CJ_seq ?_
    refine CJ_block ?_
    refine CJ_seq ?_
    refine CJ_reg ?_
    refine LJ_y rfl rfl (YJ_index1 rfl rfl arrt_34 tyi_3 (by omega) (by omega) rfl) ?_
    refine LJ_y rfl rfl (YJ_assign rfl) ?_
    refine LJ_nil ?_
    refine QJ_then ?_
    refine CJ_seq ?_
    refine CJ_reg ?_
    refine LJ_y rfl rfl (YJ_move rfl) ?_
    refine LJ_y rfl rfl (YJ_bin rfl rfl rfl) ?_
    refine LJ_nil ?_
    refine QJ_then ?_
    refine CJ_cond rfl (fun h73 => ?_) (fun h73 => ?_)
    · try simp only [decide_eq_true_eq, decide_eq_false_iff_not, Bool.not_eq_true', Bool.not_eq_false', Bool.and_eq_true, Bool.and_eq_false_iff, beq_iff_eq, bne_iff_ne, beq_eq_false_iff_ne, bne_eq_false_iff_eq, ne_eq, decide_eq_decide] at h73
      refine CJ_reg ?_
      refine LJ_y rfl rfl (YJ_move rfl) ?_
      refine LJ_y rfl rfl (YJ_nilCheck rfl) ?_
      first | refine LJ_y rfl rfl (YJ_fieldOwn rfl fld_57_3 rfl) ?_ | refine LJ_y rfl rfl (YJ_fieldAddr rfl fld_57_3) ?_
      first | refine LJ_y rfl rfl (YJ_loadL rfl tyi_55 (by repeat first | exact .head _ | apply List.Mem.tail) rfl) ?_ | refine LJ_y rfl rfl (YJ_loadFact rfl tyi_55 (by repeat first | exact .head _ | apply List.Mem.tail) rfl) ?_
      refine LJ_y rfl rfl (YJ_move rfl) ?_
      refine LJ_y rfl rfl (YJ_move rfl) ?_
      refine LJ_val (v := .int .i64 nn) (by first | rfl | rw [hnn]) ?_
      refine LJ_y rfl rfl (YJ_ixOwn rfl rfl elt_55 (by omega) (by omega)) ?_
      refine LJ_storeRow (off := a.toNat) (xs' := Iv (setAt M.ats a nn)) (μ' := (_ :: _ :: _ :: _ :: _ :: _ :: _ :: _)) 6 rfl rfl rfl (addr_eq (by omega)) rfl tyi_3 rfl (by simp only [Iv_len, setAt_len]; omega) rfl (Iv_setAt (by omega) (by first | omega | (simp only [setAt_len]; omega)) rfl) (by simp only [Iv_len, setAt_len]; omega) rfl ?_
      refine LJ_nil ?_
      refine QJ_in_normal ?_
      refine QJ_then ?_
      refine CJ_reg ?_
      first | refine LJ_y rfl rfl (YJ_bin rfl rfl (iop_add (by omega))) ?_ | refine LJ_y rfl rfl (YJ_bin rfl rfl rfl) ?_
      refine LJ_y rfl rfl (YJ_move rfl) ?_
      refine LJ_nil ?_
      refine QJ_thenN ?_
      refine CN_succ ?_
      refine CJ_seq ?_
      refine CJ_reg ?_
      refine LJ_y rfl rfl (YJ_bin rfl rfl rfl) ?_
      refine LJ_nil ?_
      refine QJ_then ?_
      refine CJ_seq ?_
      refine CJ_condT rfl ?_
      refine CJ_skip ?_
      refine QJ_then ?_
      refine CJ_seq ?_
      refine CJ_block ?_
      refine CJ_seq ?_
      refine CJ_reg ?_
      refine LJ_y rfl rfl (YJ_index1 rfl rfl arrt_34 tyi_3 (by omega) (by omega) rfl) ?_
      refine LJ_y rfl rfl (YJ_assign rfl) ?_
      refine LJ_nil ?_
      refine QJ_then ?_
      refine CJ_seq ?_
      refine CJ_reg ?_
      refine LJ_y rfl rfl (YJ_move rfl) ?_
      refine LJ_y rfl rfl (YJ_bin rfl rfl rfl) ?_
      refine LJ_nil ?_
      refine QJ_then ?_
      refine CJ_cond rfl (fun h73 => ?_) (fun h73 => ?_)
      · try simp only [decide_eq_true_eq, decide_eq_false_iff_not, Bool.not_eq_true', Bool.not_eq_false', Bool.and_eq_true, Bool.and_eq_false_iff, beq_iff_eq, bne_iff_ne, beq_eq_false_iff_ne, bne_eq_false_iff_eq, ne_eq, decide_eq_decide] at h73
        refine CJ_reg ?_
        refine LJ_y rfl rfl (YJ_move rfl) ?_
        refine LJ_y rfl rfl (YJ_nilCheck rfl) ?_
        first | refine LJ_y rfl rfl (YJ_fieldOwn rfl fld_57_3 rfl) ?_ | refine LJ_y rfl rfl (YJ_fieldAddr rfl fld_57_3) ?_
        first | refine LJ_y rfl rfl (YJ_loadL rfl tyi_55 (by repeat first | exact .head _ | apply List.Mem.tail) rfl) ?_ | refine LJ_y rfl rfl (YJ_loadFact rfl tyi_55 (by repeat first | exact .head _ | apply List.Mem.tail) rfl) ?_
        refine LJ_y rfl rfl (YJ_move rfl) ?_
        refine LJ_y rfl rfl (YJ_move rfl) ?_
        refine LJ_val (v := .int .i64 nn) (by first | rfl | rw [hnn]) ?_
        refine LJ_y rfl rfl (YJ_ixOwn rfl rfl elt_55 (by omega) (by omega)) ?_
        refine LJ_storeRow (off := b.toNat) (xs' := Iv (setAt (setAt M.ats a nn) b nn)) (μ' := (_ :: _ :: _ :: _ :: _ :: _ :: _ :: _)) 6 rfl rfl rfl (addr_eq (by omega)) rfl tyi_3 rfl (by simp only [Iv_len, setAt_len]; omega) rfl (Iv_setAt (by omega) (by first | omega | (simp only [setAt_len]; omega)) rfl) (by simp only [Iv_len, setAt_len]; omega) rfl ?_
        refine LJ_nil ?_
        refine QJ_in_normal ?_
        refine QJ_then ?_
        refine CJ_reg ?_
        first | refine LJ_y rfl rfl (YJ_bin rfl rfl (iop_add (by omega))) ?_ | refine LJ_y rfl rfl (YJ_bin rfl rfl rfl) ?_
        refine LJ_y rfl rfl (YJ_move rfl) ?_
        refine LJ_nil ?_
        refine QJ_thenN ?_
        refine CN_succ ?_
        refine CJ_seq ?_
        refine CJ_reg ?_
        refine LJ_y rfl rfl (YJ_bin rfl rfl rfl) ?_
        refine LJ_nil ?_
        refine QJ_then ?_
        refine CJ_seq ?_
        refine CJ_condT rfl ?_
        refine CJ_skip ?_
        refine QJ_then ?_
        refine CJ_seq ?_
        refine CJ_block ?_
        refine CJ_seq ?_
        refine CJ_reg ?_
        refine LJ_y rfl rfl (YJ_index1 rfl rfl arrt_34 tyi_3 (by omega) (by omega) rfl) ?_
        refine LJ_y rfl rfl (YJ_assign rfl) ?_
        refine LJ_nil ?_
        refine QJ_then ?_
        refine CJ_seq ?_
        refine CJ_reg ?_
        refine LJ_y rfl rfl (YJ_move rfl) ?_
        refine LJ_y rfl rfl (YJ_bin rfl rfl rfl) ?_
        refine LJ_nil ?_
        refine QJ_then ?_
        refine CJ_cond rfl (fun h73 => ?_) (fun h73 => ?_)
        · try simp only [decide_eq_true_eq, decide_eq_false_iff_not, Bool.not_eq_true', Bool.not_eq_false', Bool.and_eq_true, Bool.and_eq_false_iff, beq_iff_eq, bne_iff_ne, beq_eq_false_iff_ne, bne_eq_false_iff_eq, ne_eq, decide_eq_decide] at h73
          refine CJ_reg ?_
          refine LJ_y rfl rfl (YJ_move rfl) ?_
          refine LJ_y rfl rfl (YJ_nilCheck rfl) ?_
          first | refine LJ_y rfl rfl (YJ_fieldOwn rfl fld_57_3 rfl) ?_ | refine LJ_y rfl rfl (YJ_fieldAddr rfl fld_57_3) ?_
          first | refine LJ_y rfl rfl (YJ_loadL rfl tyi_55 (by repeat first | exact .head _ | apply List.Mem.tail) rfl) ?_ | refine LJ_y rfl rfl (YJ_loadFact rfl tyi_55 (by repeat first | exact .head _ | apply List.Mem.tail) rfl) ?_
          refine LJ_y rfl rfl (YJ_move rfl) ?_
          refine LJ_y rfl rfl (YJ_move rfl) ?_
          refine LJ_val (v := .int .i64 nn) (by first | rfl | rw [hnn]) ?_
          refine LJ_y rfl rfl (YJ_ixOwn rfl rfl elt_55 (by omega) (by omega)) ?_
          refine LJ_storeRow (off := c.toNat) (xs' := Iv (setAt (setAt (setAt M.ats a nn) b nn) c nn)) (μ' := (_ :: _ :: _ :: _ :: _ :: _ :: _ :: _)) 6 rfl rfl rfl (addr_eq (by omega)) rfl tyi_3 rfl (by simp only [Iv_len, setAt_len]; omega) rfl (Iv_setAt (by omega) (by first | omega | (simp only [setAt_len]; omega)) rfl) (by simp only [Iv_len, setAt_len]; omega) rfl ?_
          refine LJ_nil ?_
          refine QJ_in_normal ?_
          refine QJ_then ?_
          refine CJ_reg ?_
          first | refine LJ_y rfl rfl (YJ_bin rfl rfl (iop_add (by omega))) ?_ | refine LJ_y rfl rfl (YJ_bin rfl rfl rfl) ?_
          refine LJ_y rfl rfl (YJ_move rfl) ?_
          refine LJ_nil ?_
          refine QJ_thenN ?_
          refine CN_succ ?_
          refine CJ_seq ?_
          refine CJ_reg ?_
          refine LJ_y rfl rfl (YJ_bin rfl rfl rfl) ?_
          refine LJ_nil ?_
          refine QJ_then ?_
          refine CJ_seq ?_
          refine CJ_condF rfl ?_
          refine CJ_exit ?_
          refine QJ_then_exit ?_
          refine QJ_then_exit ?_
          refine QJ_in_exit ?_
          refine QJ_then ?_
          refine CJ_seq ?_
          refine CJ_reg ?_
          refine LJ_y rfl rfl (YJ_move rfl) ?_
          refine LJ_y rfl rfl (YJ_assign rfl) ?_
          refine LJ_nil ?_
          refine QJ_then ?_
          refine CJ_ret ?_
          refine QJ_closeMesh (M.make a b c) (permI [2, 2, 2, 2, 2] rfl) ⟨rfl, rfl⟩ ⟨by simp [MD.make, hf0], by simp [MD.make, hf0]⟩ ⟨by simp [MD.make, hf0], by simp [MD.make, hf0]⟩ ⟨by simp [MD.make, setAt_len], by simp [MD.make, MD.nextN, hf0, hnn]⟩ ?_
          exact QJ_fin (.inl rfl) (μ' := [_]) (μr := [_, _]) (φ' := []) (res_tmp rfl rfl) (List.Perm.refl _) (fun _ h => nomatch h) ⟨congrArg (Value.int .i64) (by simp [MD.nextN, hf0]), rfl, rfl⟩
        · try simp only [decide_eq_true_eq, decide_eq_false_iff_not, Bool.not_eq_true', Bool.not_eq_false', Bool.and_eq_true, Bool.and_eq_false_iff, beq_iff_eq, bne_iff_ne, beq_eq_false_iff_ne, bne_eq_false_iff_eq, ne_eq, decide_eq_decide] at h73
          refine CJ_turnK (k := 6) (r' := rowR 3 1 (some ⟨gA, 0, none⟩) M.ats.length cA (Iv (setAt (setAt (setAt M.ats a nn) b nn) c nn))) rfl (fun w S q => by rw [show setAt (setAt (setAt M.ats a nn) b nn) c nn = setAt (setAt M.ats a nn) b nn from if_neg (by omega)]; exact q) ?_
          refine CJ_skip ?_
          refine QJ_in_normal ?_
          refine QJ_then ?_
          refine CJ_reg ?_
          first | refine LJ_y rfl rfl (YJ_bin rfl rfl (iop_add (by omega))) ?_ | refine LJ_y rfl rfl (YJ_bin rfl rfl rfl) ?_
          refine LJ_y rfl rfl (YJ_move rfl) ?_
          refine LJ_nil ?_
          refine QJ_thenN ?_
          refine CN_succ ?_
          refine CJ_seq ?_
          refine CJ_reg ?_
          refine LJ_y rfl rfl (YJ_bin rfl rfl rfl) ?_
          refine LJ_nil ?_
          refine QJ_then ?_
          refine CJ_seq ?_
          refine CJ_condF rfl ?_
          refine CJ_exit ?_
          refine QJ_then_exit ?_
          refine QJ_then_exit ?_
          refine QJ_in_exit ?_
          refine QJ_then ?_
          refine CJ_seq ?_
          refine CJ_reg ?_
          refine LJ_y rfl rfl (YJ_move rfl) ?_
          refine LJ_y rfl rfl (YJ_assign rfl) ?_
          refine LJ_nil ?_
          refine QJ_then ?_
          refine CJ_ret ?_
          refine QJ_closeMesh (M.make a b c) (permI [2, 2, 2, 2, 2] rfl) ⟨rfl, rfl⟩ ⟨by simp [MD.make, hf0], by simp [MD.make, hf0]⟩ ⟨by simp [MD.make, hf0], by simp [MD.make, hf0]⟩ ⟨by simp [MD.make, setAt_len], by simp [MD.make, MD.nextN, hf0, hnn]⟩ ?_
          exact QJ_fin (.inl rfl) (μ' := [_]) (μr := [_, _]) (φ' := []) (res_tmp rfl rfl) (List.Perm.refl _) (fun _ h => nomatch h) ⟨congrArg (Value.int .i64) (by simp [MD.nextN, hf0]), rfl, rfl⟩
      · try simp only [decide_eq_true_eq, decide_eq_false_iff_not, Bool.not_eq_true', Bool.not_eq_false', Bool.and_eq_true, Bool.and_eq_false_iff, beq_iff_eq, bne_iff_ne, beq_eq_false_iff_ne, bne_eq_false_iff_eq, ne_eq, decide_eq_decide] at h73
        refine CJ_turnK (k := 6) (r' := rowR 3 1 (some ⟨gA, 0, none⟩) M.ats.length cA (Iv (setAt (setAt M.ats a nn) b nn))) rfl (fun w S q => by rw [show setAt (setAt M.ats a nn) b nn = setAt M.ats a nn from if_neg (by omega)]; exact q) ?_
        refine CJ_skip ?_
        refine QJ_in_normal ?_
        refine QJ_then ?_
        refine CJ_reg ?_
        first | refine LJ_y rfl rfl (YJ_bin rfl rfl (iop_add (by omega))) ?_ | refine LJ_y rfl rfl (YJ_bin rfl rfl rfl) ?_
        refine LJ_y rfl rfl (YJ_move rfl) ?_
        refine LJ_nil ?_
        refine QJ_thenN ?_
        refine CN_succ ?_
        refine CJ_seq ?_
        refine CJ_reg ?_
        refine LJ_y rfl rfl (YJ_bin rfl rfl rfl) ?_
        refine LJ_nil ?_
        refine QJ_then ?_
        refine CJ_seq ?_
        refine CJ_condT rfl ?_
        refine CJ_skip ?_
        refine QJ_then ?_
        refine CJ_seq ?_
        refine CJ_block ?_
        refine CJ_seq ?_
        refine CJ_reg ?_
        refine LJ_y rfl rfl (YJ_index1 rfl rfl arrt_34 tyi_3 (by omega) (by omega) rfl) ?_
        refine LJ_y rfl rfl (YJ_assign rfl) ?_
        refine LJ_nil ?_
        refine QJ_then ?_
        refine CJ_seq ?_
        refine CJ_reg ?_
        refine LJ_y rfl rfl (YJ_move rfl) ?_
        refine LJ_y rfl rfl (YJ_bin rfl rfl rfl) ?_
        refine LJ_nil ?_
        refine QJ_then ?_
        refine CJ_cond rfl (fun h73 => ?_) (fun h73 => ?_)
        · try simp only [decide_eq_true_eq, decide_eq_false_iff_not, Bool.not_eq_true', Bool.not_eq_false', Bool.and_eq_true, Bool.and_eq_false_iff, beq_iff_eq, bne_iff_ne, beq_eq_false_iff_ne, bne_eq_false_iff_eq, ne_eq, decide_eq_decide] at h73
          refine CJ_reg ?_
          refine LJ_y rfl rfl (YJ_move rfl) ?_
          refine LJ_y rfl rfl (YJ_nilCheck rfl) ?_
          first | refine LJ_y rfl rfl (YJ_fieldOwn rfl fld_57_3 rfl) ?_ | refine LJ_y rfl rfl (YJ_fieldAddr rfl fld_57_3) ?_
          first | refine LJ_y rfl rfl (YJ_loadL rfl tyi_55 (by repeat first | exact .head _ | apply List.Mem.tail) rfl) ?_ | refine LJ_y rfl rfl (YJ_loadFact rfl tyi_55 (by repeat first | exact .head _ | apply List.Mem.tail) rfl) ?_
          refine LJ_y rfl rfl (YJ_move rfl) ?_
          refine LJ_y rfl rfl (YJ_move rfl) ?_
          refine LJ_val (v := .int .i64 nn) (by first | rfl | rw [hnn]) ?_
          refine LJ_y rfl rfl (YJ_ixOwn rfl rfl elt_55 (by omega) (by omega)) ?_
          refine LJ_storeRow (off := c.toNat) (xs' := Iv (setAt (setAt (setAt M.ats a nn) b nn) c nn)) (μ' := (_ :: _ :: _ :: _ :: _ :: _ :: _ :: _)) 6 rfl rfl rfl (addr_eq (by omega)) rfl tyi_3 rfl (by simp only [Iv_len, setAt_len]; omega) rfl (Iv_setAt (by omega) (by first | omega | (simp only [setAt_len]; omega)) rfl) (by simp only [Iv_len, setAt_len]; omega) rfl ?_
          refine LJ_nil ?_
          refine QJ_in_normal ?_
          refine QJ_then ?_
          refine CJ_reg ?_
          first | refine LJ_y rfl rfl (YJ_bin rfl rfl (iop_add (by omega))) ?_ | refine LJ_y rfl rfl (YJ_bin rfl rfl rfl) ?_
          refine LJ_y rfl rfl (YJ_move rfl) ?_
          refine LJ_nil ?_
          refine QJ_thenN ?_
          refine CN_succ ?_
          refine CJ_seq ?_
          refine CJ_reg ?_
          refine LJ_y rfl rfl (YJ_bin rfl rfl rfl) ?_
          refine LJ_nil ?_
          refine QJ_then ?_
          refine CJ_seq ?_
          refine CJ_condF rfl ?_
          refine CJ_exit ?_
          refine QJ_then_exit ?_
          refine QJ_then_exit ?_
          refine QJ_in_exit ?_
          refine QJ_then ?_
          refine CJ_seq ?_
          refine CJ_reg ?_
          refine LJ_y rfl rfl (YJ_move rfl) ?_
          refine LJ_y rfl rfl (YJ_assign rfl) ?_
          refine LJ_nil ?_
          refine QJ_then ?_
          refine CJ_ret ?_
          refine QJ_closeMesh (M.make a b c) (permI [2, 2, 2, 2, 2] rfl) ⟨rfl, rfl⟩ ⟨by simp [MD.make, hf0], by simp [MD.make, hf0]⟩ ⟨by simp [MD.make, hf0], by simp [MD.make, hf0]⟩ ⟨by simp [MD.make, setAt_len], by simp [MD.make, MD.nextN, hf0, hnn]⟩ ?_
          exact QJ_fin (.inl rfl) (μ' := [_]) (μr := [_, _]) (φ' := []) (res_tmp rfl rfl) (List.Perm.refl _) (fun _ h => nomatch h) ⟨congrArg (Value.int .i64) (by simp [MD.nextN, hf0]), rfl, rfl⟩
        · try simp only [decide_eq_true_eq, decide_eq_false_iff_not, Bool.not_eq_true', Bool.not_eq_false', Bool.and_eq_true, Bool.and_eq_false_iff, beq_iff_eq, bne_iff_ne, beq_eq_false_iff_ne, bne_eq_false_iff_eq, ne_eq, decide_eq_decide] at h73
          refine CJ_turnK (k := 6) (r' := rowR 3 1 (some ⟨gA, 0, none⟩) M.ats.length cA (Iv (setAt (setAt (setAt M.ats a nn) b nn) c nn))) rfl (fun w S q => by rw [show setAt (setAt (setAt M.ats a nn) b nn) c nn = setAt (setAt M.ats a nn) b nn from if_neg (by omega)]; exact q) ?_
          refine CJ_skip ?_
          refine QJ_in_normal ?_
          refine QJ_then ?_
          refine CJ_reg ?_
          first | refine LJ_y rfl rfl (YJ_bin rfl rfl (iop_add (by omega))) ?_ | refine LJ_y rfl rfl (YJ_bin rfl rfl rfl) ?_
          refine LJ_y rfl rfl (YJ_move rfl) ?_
          refine LJ_nil ?_
          refine QJ_thenN ?_
          refine CN_succ ?_
          refine CJ_seq ?_
          refine CJ_reg ?_
          refine LJ_y rfl rfl (YJ_bin rfl rfl rfl) ?_
          refine LJ_nil ?_
          refine QJ_then ?_
          refine CJ_seq ?_
          refine CJ_condF rfl ?_
          refine CJ_exit ?_
          refine QJ_then_exit ?_
          refine QJ_then_exit ?_
          refine QJ_in_exit ?_
          refine QJ_then ?_
          refine CJ_seq ?_
          refine CJ_reg ?_
          refine LJ_y rfl rfl (YJ_move rfl) ?_
          refine LJ_y rfl rfl (YJ_assign rfl) ?_
          refine LJ_nil ?_
          refine QJ_then ?_
          refine CJ_ret ?_
          refine QJ_closeMesh (M.make a b c) (permI [2, 2, 2, 2, 2] rfl) ⟨rfl, rfl⟩ ⟨by simp [MD.make, hf0], by simp [MD.make, hf0]⟩ ⟨by simp [MD.make, hf0], by simp [MD.make, hf0]⟩ ⟨by simp [MD.make, setAt_len], by simp [MD.make, MD.nextN, hf0, hnn]⟩ ?_
          exact QJ_fin (.inl rfl) (μ' := [_]) (μr := [_, _]) (φ' := []) (res_tmp rfl rfl) (List.Perm.refl _) (fun _ h => nomatch h) ⟨congrArg (Value.int .i64) (by simp [MD.nextN, hf0]), rfl, rfl⟩
    · try simp only [decide_eq_true_eq, decide_eq_false_iff_not, Bool.not_eq_true', Bool.not_eq_false', Bool.and_eq_true, Bool.and_eq_false_iff, beq_iff_eq, bne_iff_ne, beq_eq_false_iff_ne, bne_eq_false_iff_eq, ne_eq, decide_eq_decide] at h73
      refine CJ_turnK (k := 6) (r' := rowR 3 1 (some ⟨gA, 0, none⟩) M.ats.length cA (Iv (setAt M.ats a nn))) rfl (fun w S q => by rw [show setAt M.ats a nn = M.ats from if_neg (by omega)]; exact q) ?_
      refine CJ_skip ?_
      refine QJ_in_normal ?_
      refine QJ_then ?_
      refine CJ_reg ?_
      first | refine LJ_y rfl rfl (YJ_bin rfl rfl (iop_add (by omega))) ?_ | refine LJ_y rfl rfl (YJ_bin rfl rfl rfl) ?_
      refine LJ_y rfl rfl (YJ_move rfl) ?_
      refine LJ_nil ?_
      refine QJ_thenN ?_
      refine CN_succ ?_
      refine CJ_seq ?_
      refine CJ_reg ?_
      refine LJ_y rfl rfl (YJ_bin rfl rfl rfl) ?_
      refine LJ_nil ?_
      refine QJ_then ?_
      refine CJ_seq ?_
      refine CJ_condT rfl ?_
      refine CJ_skip ?_
      refine QJ_then ?_
      refine CJ_seq ?_
      refine CJ_block ?_
      refine CJ_seq ?_
      refine CJ_reg ?_
      refine LJ_y rfl rfl (YJ_index1 rfl rfl arrt_34 tyi_3 (by omega) (by omega) rfl) ?_
      refine LJ_y rfl rfl (YJ_assign rfl) ?_
      refine LJ_nil ?_
      refine QJ_then ?_
      refine CJ_seq ?_
      refine CJ_reg ?_
      refine LJ_y rfl rfl (YJ_move rfl) ?_
      refine LJ_y rfl rfl (YJ_bin rfl rfl rfl) ?_
      refine LJ_nil ?_
      refine QJ_then ?_
      refine CJ_cond rfl (fun h73 => ?_) (fun h73 => ?_)
      · try simp only [decide_eq_true_eq, decide_eq_false_iff_not, Bool.not_eq_true', Bool.not_eq_false', Bool.and_eq_true, Bool.and_eq_false_iff, beq_iff_eq, bne_iff_ne, beq_eq_false_iff_ne, bne_eq_false_iff_eq, ne_eq, decide_eq_decide] at h73
        refine CJ_reg ?_
        refine LJ_y rfl rfl (YJ_move rfl) ?_
        refine LJ_y rfl rfl (YJ_nilCheck rfl) ?_
        first | refine LJ_y rfl rfl (YJ_fieldOwn rfl fld_57_3 rfl) ?_ | refine LJ_y rfl rfl (YJ_fieldAddr rfl fld_57_3) ?_
        first | refine LJ_y rfl rfl (YJ_loadL rfl tyi_55 (by repeat first | exact .head _ | apply List.Mem.tail) rfl) ?_ | refine LJ_y rfl rfl (YJ_loadFact rfl tyi_55 (by repeat first | exact .head _ | apply List.Mem.tail) rfl) ?_
        refine LJ_y rfl rfl (YJ_move rfl) ?_
        refine LJ_y rfl rfl (YJ_move rfl) ?_
        refine LJ_val (v := .int .i64 nn) (by first | rfl | rw [hnn]) ?_
        refine LJ_y rfl rfl (YJ_ixOwn rfl rfl elt_55 (by omega) (by omega)) ?_
        refine LJ_storeRow (off := b.toNat) (xs' := Iv (setAt (setAt M.ats a nn) b nn)) (μ' := (_ :: _ :: _ :: _ :: _ :: _ :: _ :: _)) 6 rfl rfl rfl (addr_eq (by omega)) rfl tyi_3 rfl (by simp only [Iv_len, setAt_len]; omega) rfl (Iv_setAt (by omega) (by first | omega | (simp only [setAt_len]; omega)) rfl) (by simp only [Iv_len, setAt_len]; omega) rfl ?_
        refine LJ_nil ?_
        refine QJ_in_normal ?_
        refine QJ_then ?_
        refine CJ_reg ?_
        first | refine LJ_y rfl rfl (YJ_bin rfl rfl (iop_add (by omega))) ?_ | refine LJ_y rfl rfl (YJ_bin rfl rfl rfl) ?_
        refine LJ_y rfl rfl (YJ_move rfl) ?_
        refine LJ_nil ?_
        refine QJ_thenN ?_
        refine CN_succ ?_
        refine CJ_seq ?_
        refine CJ_reg ?_
        refine LJ_y rfl rfl (YJ_bin rfl rfl rfl) ?_
        refine LJ_nil ?_
        refine QJ_then ?_
        refine CJ_seq ?_
        refine CJ_condT rfl ?_
        refine CJ_skip ?_
        refine QJ_then ?_
        refine CJ_seq ?_
        refine CJ_block ?_
        refine CJ_seq ?_
        refine CJ_reg ?_
        refine LJ_y rfl rfl (YJ_index1 rfl rfl arrt_34 tyi_3 (by omega) (by omega) rfl) ?_
        refine LJ_y rfl rfl (YJ_assign rfl) ?_
        refine LJ_nil ?_
        refine QJ_then ?_
        refine CJ_seq ?_
        refine CJ_reg ?_
        refine LJ_y rfl rfl (YJ_move rfl) ?_
        refine LJ_y rfl rfl (YJ_bin rfl rfl rfl) ?_
        refine LJ_nil ?_
        refine QJ_then ?_
        refine CJ_cond rfl (fun h73 => ?_) (fun h73 => ?_)
        · try simp only [decide_eq_true_eq, decide_eq_false_iff_not, Bool.not_eq_true', Bool.not_eq_false', Bool.and_eq_true, Bool.and_eq_false_iff, beq_iff_eq, bne_iff_ne, beq_eq_false_iff_ne, bne_eq_false_iff_eq, ne_eq, decide_eq_decide] at h73
          refine CJ_reg ?_
          refine LJ_y rfl rfl (YJ_move rfl) ?_
          refine LJ_y rfl rfl (YJ_nilCheck rfl) ?_
          first | refine LJ_y rfl rfl (YJ_fieldOwn rfl fld_57_3 rfl) ?_ | refine LJ_y rfl rfl (YJ_fieldAddr rfl fld_57_3) ?_
          first | refine LJ_y rfl rfl (YJ_loadL rfl tyi_55 (by repeat first | exact .head _ | apply List.Mem.tail) rfl) ?_ | refine LJ_y rfl rfl (YJ_loadFact rfl tyi_55 (by repeat first | exact .head _ | apply List.Mem.tail) rfl) ?_
          refine LJ_y rfl rfl (YJ_move rfl) ?_
          refine LJ_y rfl rfl (YJ_move rfl) ?_
          refine LJ_val (v := .int .i64 nn) (by first | rfl | rw [hnn]) ?_
          refine LJ_y rfl rfl (YJ_ixOwn rfl rfl elt_55 (by omega) (by omega)) ?_
          refine LJ_storeRow (off := c.toNat) (xs' := Iv (setAt (setAt (setAt M.ats a nn) b nn) c nn)) (μ' := (_ :: _ :: _ :: _ :: _ :: _ :: _ :: _)) 6 rfl rfl rfl (addr_eq (by omega)) rfl tyi_3 rfl (by simp only [Iv_len, setAt_len]; omega) rfl (Iv_setAt (by omega) (by first | omega | (simp only [setAt_len]; omega)) rfl) (by simp only [Iv_len, setAt_len]; omega) rfl ?_
          refine LJ_nil ?_
          refine QJ_in_normal ?_
          refine QJ_then ?_
          refine CJ_reg ?_
          first | refine LJ_y rfl rfl (YJ_bin rfl rfl (iop_add (by omega))) ?_ | refine LJ_y rfl rfl (YJ_bin rfl rfl rfl) ?_
          refine LJ_y rfl rfl (YJ_move rfl) ?_
          refine LJ_nil ?_
          refine QJ_thenN ?_
          refine CN_succ ?_
          refine CJ_seq ?_
          refine CJ_reg ?_
          refine LJ_y rfl rfl (YJ_bin rfl rfl rfl) ?_
          refine LJ_nil ?_
          refine QJ_then ?_
          refine CJ_seq ?_
          refine CJ_condF rfl ?_
          refine CJ_exit ?_
          refine QJ_then_exit ?_
          refine QJ_then_exit ?_
          refine QJ_in_exit ?_
          refine QJ_then ?_
          refine CJ_seq ?_
          refine CJ_reg ?_
          refine LJ_y rfl rfl (YJ_move rfl) ?_
          refine LJ_y rfl rfl (YJ_assign rfl) ?_
          refine LJ_nil ?_
          refine QJ_then ?_
          refine CJ_ret ?_
          refine QJ_closeMesh (M.make a b c) (permI [2, 2, 2, 2, 2] rfl) ⟨rfl, rfl⟩ ⟨by simp [MD.make, hf0], by simp [MD.make, hf0]⟩ ⟨by simp [MD.make, hf0], by simp [MD.make, hf0]⟩ ⟨by simp [MD.make, setAt_len], by simp [MD.make, MD.nextN, hf0, hnn]⟩ ?_
          exact QJ_fin (.inl rfl) (μ' := [_]) (μr := [_, _]) (φ' := []) (res_tmp rfl rfl) (List.Perm.refl _) (fun _ h => nomatch h) ⟨congrArg (Value.int .i64) (by simp [MD.nextN, hf0]), rfl, rfl⟩
        · try simp only [decide_eq_true_eq, decide_eq_false_iff_not, Bool.not_eq_true', Bool.not_eq_false', Bool.and_eq_true, Bool.and_eq_false_iff, beq_iff_eq, bne_iff_ne, beq_eq_false_iff_ne, bne_eq_false_iff_eq, ne_eq, decide_eq_decide] at h73
          refine CJ_turnK (k := 6) (r' := rowR 3 1 (some ⟨gA, 0, none⟩) M.ats.length cA (Iv (setAt (setAt (setAt M.ats a nn) b nn) c nn))) rfl (fun w S q => by rw [show setAt (setAt (setAt M.ats a nn) b nn) c nn = setAt (setAt M.ats a nn) b nn from if_neg (by omega)]; exact q) ?_
          refine CJ_skip ?_
          refine QJ_in_normal ?_
          refine QJ_then ?_
          refine CJ_reg ?_
          first | refine LJ_y rfl rfl (YJ_bin rfl rfl (iop_add (by omega))) ?_ | refine LJ_y rfl rfl (YJ_bin rfl rfl rfl) ?_
          refine LJ_y rfl rfl (YJ_move rfl) ?_
          refine LJ_nil ?_
          refine QJ_thenN ?_
          refine CN_succ ?_
          refine CJ_seq ?_
          refine CJ_reg ?_
          refine LJ_y rfl rfl (YJ_bin rfl rfl rfl) ?_
          refine LJ_nil ?_
          refine QJ_then ?_
          refine CJ_seq ?_
          refine CJ_condF rfl ?_
          refine CJ_exit ?_
          refine QJ_then_exit ?_
          refine QJ_then_exit ?_
          refine QJ_in_exit ?_
          refine QJ_then ?_
          refine CJ_seq ?_
          refine CJ_reg ?_
          refine LJ_y rfl rfl (YJ_move rfl) ?_
          refine LJ_y rfl rfl (YJ_assign rfl) ?_
          refine LJ_nil ?_
          refine QJ_then ?_
          refine CJ_ret ?_
          refine QJ_closeMesh (M.make a b c) (permI [2, 2, 2, 2, 2] rfl) ⟨rfl, rfl⟩ ⟨by simp [MD.make, hf0], by simp [MD.make, hf0]⟩ ⟨by simp [MD.make, hf0], by simp [MD.make, hf0]⟩ ⟨by simp [MD.make, setAt_len], by simp [MD.make, MD.nextN, hf0, hnn]⟩ ?_
          exact QJ_fin (.inl rfl) (μ' := [_]) (μr := [_, _]) (φ' := []) (res_tmp rfl rfl) (List.Perm.refl _) (fun _ h => nomatch h) ⟨congrArg (Value.int .i64) (by simp [MD.nextN, hf0]), rfl, rfl⟩
      · try simp only [decide_eq_true_eq, decide_eq_false_iff_not, Bool.not_eq_true', Bool.not_eq_false', Bool.and_eq_true, Bool.and_eq_false_iff, beq_iff_eq, bne_iff_ne, beq_eq_false_iff_ne, bne_eq_false_iff_eq, ne_eq, decide_eq_decide] at h73
        refine CJ_turnK (k := 6) (r' := rowR 3 1 (some ⟨gA, 0, none⟩) M.ats.length cA (Iv (setAt (setAt M.ats a nn) b nn))) rfl (fun w S q => by rw [show setAt (setAt M.ats a nn) b nn = setAt M.ats a nn from if_neg (by omega)]; exact q) ?_
        refine CJ_skip ?_
        refine QJ_in_normal ?_
        refine QJ_then ?_
        refine CJ_reg ?_
        first | refine LJ_y rfl rfl (YJ_bin rfl rfl (iop_add (by omega))) ?_ | refine LJ_y rfl rfl (YJ_bin rfl rfl rfl) ?_
        refine LJ_y rfl rfl (YJ_move rfl) ?_
        refine LJ_nil ?_
        refine QJ_thenN ?_
        refine CN_succ ?_
        refine CJ_seq ?_
        refine CJ_reg ?_
        refine LJ_y rfl rfl (YJ_bin rfl rfl rfl) ?_
        refine LJ_nil ?_
        refine QJ_then ?_
        refine CJ_seq ?_
        refine CJ_condT rfl ?_
        refine CJ_skip ?_
        refine QJ_then ?_
        refine CJ_seq ?_
        refine CJ_block ?_
        refine CJ_seq ?_
        refine CJ_reg ?_
        refine LJ_y rfl rfl (YJ_index1 rfl rfl arrt_34 tyi_3 (by omega) (by omega) rfl) ?_
        refine LJ_y rfl rfl (YJ_assign rfl) ?_
        refine LJ_nil ?_
        refine QJ_then ?_
        refine CJ_seq ?_
        refine CJ_reg ?_
        refine LJ_y rfl rfl (YJ_move rfl) ?_
        refine LJ_y rfl rfl (YJ_bin rfl rfl rfl) ?_
        refine LJ_nil ?_
        refine QJ_then ?_
        refine CJ_cond rfl (fun h73 => ?_) (fun h73 => ?_)
        · try simp only [decide_eq_true_eq, decide_eq_false_iff_not, Bool.not_eq_true', Bool.not_eq_false', Bool.and_eq_true, Bool.and_eq_false_iff, beq_iff_eq, bne_iff_ne, beq_eq_false_iff_ne, bne_eq_false_iff_eq, ne_eq, decide_eq_decide] at h73
          refine CJ_reg ?_
          refine LJ_y rfl rfl (YJ_move rfl) ?_
          refine LJ_y rfl rfl (YJ_nilCheck rfl) ?_
          first | refine LJ_y rfl rfl (YJ_fieldOwn rfl fld_57_3 rfl) ?_ | refine LJ_y rfl rfl (YJ_fieldAddr rfl fld_57_3) ?_
          first | refine LJ_y rfl rfl (YJ_loadL rfl tyi_55 (by repeat first | exact .head _ | apply List.Mem.tail) rfl) ?_ | refine LJ_y rfl rfl (YJ_loadFact rfl tyi_55 (by repeat first | exact .head _ | apply List.Mem.tail) rfl) ?_
          refine LJ_y rfl rfl (YJ_move rfl) ?_
          refine LJ_y rfl rfl (YJ_move rfl) ?_
          refine LJ_val (v := .int .i64 nn) (by first | rfl | rw [hnn]) ?_
          refine LJ_y rfl rfl (YJ_ixOwn rfl rfl elt_55 (by omega) (by omega)) ?_
          refine LJ_storeRow (off := c.toNat) (xs' := Iv (setAt (setAt (setAt M.ats a nn) b nn) c nn)) (μ' := (_ :: _ :: _ :: _ :: _ :: _ :: _ :: _)) 6 rfl rfl rfl (addr_eq (by omega)) rfl tyi_3 rfl (by simp only [Iv_len, setAt_len]; omega) rfl (Iv_setAt (by omega) (by first | omega | (simp only [setAt_len]; omega)) rfl) (by simp only [Iv_len, setAt_len]; omega) rfl ?_
          refine LJ_nil ?_
          refine QJ_in_normal ?_
          refine QJ_then ?_
          refine CJ_reg ?_
          first | refine LJ_y rfl rfl (YJ_bin rfl rfl (iop_add (by omega))) ?_ | refine LJ_y rfl rfl (YJ_bin rfl rfl rfl) ?_
          refine LJ_y rfl rfl (YJ_move rfl) ?_
          refine LJ_nil ?_
          refine QJ_thenN ?_
          refine CN_succ ?_
          refine CJ_seq ?_
          refine CJ_reg ?_
          refine LJ_y rfl rfl (YJ_bin rfl rfl rfl) ?_
          refine LJ_nil ?_
          refine QJ_then ?_
          refine CJ_seq ?_
          refine CJ_condF rfl ?_
          refine CJ_exit ?_
          refine QJ_then_exit ?_
          refine QJ_then_exit ?_
          refine QJ_in_exit ?_
          refine QJ_then ?_
          refine CJ_seq ?_
          refine CJ_reg ?_
          refine LJ_y rfl rfl (YJ_move rfl) ?_
          refine LJ_y rfl rfl (YJ_assign rfl) ?_
          refine LJ_nil ?_
          refine QJ_then ?_
          refine CJ_ret ?_
          refine QJ_closeMesh (M.make a b c) (permI [2, 2, 2, 2, 2] rfl) ⟨rfl, rfl⟩ ⟨by simp [MD.make, hf0], by simp [MD.make, hf0]⟩ ⟨by simp [MD.make, hf0], by simp [MD.make, hf0]⟩ ⟨by simp [MD.make, setAt_len], by simp [MD.make, MD.nextN, hf0, hnn]⟩ ?_
          exact QJ_fin (.inl rfl) (μ' := [_]) (μr := [_, _]) (φ' := []) (res_tmp rfl rfl) (List.Perm.refl _) (fun _ h => nomatch h) ⟨congrArg (Value.int .i64) (by simp [MD.nextN, hf0]), rfl, rfl⟩
        · try simp only [decide_eq_true_eq, decide_eq_false_iff_not, Bool.not_eq_true', Bool.not_eq_false', Bool.and_eq_true, Bool.and_eq_false_iff, beq_iff_eq, bne_iff_ne, beq_eq_false_iff_ne, bne_eq_false_iff_eq, ne_eq, decide_eq_decide] at h73
          refine CJ_turnK (k := 6) (r' := rowR 3 1 (some ⟨gA, 0, none⟩) M.ats.length cA (Iv (setAt (setAt (setAt M.ats a nn) b nn) c nn))) rfl (fun w S q => by rw [show setAt (setAt (setAt M.ats a nn) b nn) c nn = setAt (setAt M.ats a nn) b nn from if_neg (by omega)]; exact q) ?_
          refine CJ_skip ?_
          refine QJ_in_normal ?_
          refine QJ_then ?_
          refine CJ_reg ?_
          first | refine LJ_y rfl rfl (YJ_bin rfl rfl (iop_add (by omega))) ?_ | refine LJ_y rfl rfl (YJ_bin rfl rfl rfl) ?_
          refine LJ_y rfl rfl (YJ_move rfl) ?_
          refine LJ_nil ?_
          refine QJ_thenN ?_
          refine CN_succ ?_
          refine CJ_seq ?_
          refine CJ_reg ?_
          refine LJ_y rfl rfl (YJ_bin rfl rfl rfl) ?_
          refine LJ_nil ?_
          refine QJ_then ?_
          refine CJ_seq ?_
          refine CJ_condF rfl ?_
          refine CJ_exit ?_
          refine QJ_then_exit ?_
          refine QJ_then_exit ?_
          refine QJ_in_exit ?_
          refine QJ_then ?_
          refine CJ_seq ?_
          refine CJ_reg ?_
          refine LJ_y rfl rfl (YJ_move rfl) ?_
          refine LJ_y rfl rfl (YJ_assign rfl) ?_
          refine LJ_nil ?_
          refine QJ_then ?_
          refine CJ_ret ?_
          refine QJ_closeMesh (M.make a b c) (permI [2, 2, 2, 2, 2] rfl) ⟨rfl, rfl⟩ ⟨by simp [MD.make, hf0], by simp [MD.make, hf0]⟩ ⟨by simp [MD.make, hf0], by simp [MD.make, hf0]⟩ ⟨by simp [MD.make, setAt_len], by simp [MD.make, MD.nextN, hf0, hnn]⟩ ?_
          exact QJ_fin (.inl rfl) (μ' := [_]) (μr := [_, _]) (φ' := []) (res_tmp rfl rfl) (List.Perm.refl _) (fun _ h => nomatch h) ⟨congrArg (Value.int .i64) (by simp [MD.nextN, hf0]), rfl, rfl⟩

end Go.Proofs.Ytbanlhlggkdanaa
