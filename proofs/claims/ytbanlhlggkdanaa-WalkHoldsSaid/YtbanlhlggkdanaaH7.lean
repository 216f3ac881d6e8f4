/- An own mesh that is only read from now on; the anchor of layer 10. -/
import Derived.Test.YtbanlhlggkdanaaH6
import Derived.Laws.Pointers
set_option linter.unusedSimpArgs false
set_option linter.unusedVariables false
namespace Go.Proofs.Ytbanlhlggkdanaa
open Go.RowKit

theorem ent_16 : Enter Try.prog 16 = true := by kernel_rfl


section
variable {E : Env} {Q : Qt} {σ : List (Nat × Value)} {μ φ : List Res} {ops : Array Oper} {rest : List Oper} {cd : Code} {B : Nat} {M : MD}
/-- the facts of a mesh that is no longer changed -/
def frzFs (B : Nat) (M : MD) (h : Mh) : List Res := meshFs B h M.pts M.tris ++ [sliceR 1 h.F M.free.length (Iv M.free), sliceR 1 h.A M.ats.length (Iv M.ats)]
theorem OKm.freezeMesh {w : World} (hm : OKm E (meshR B M :: μ) φ w) : ∃ h : Mh, h.nf = M.free.length ∧ h.na = M.ats.length ∧ OKm E μ (frzFs B M h ++ φ) w := by
  obtain ⟨⟨P, cP, T, cT, F, cF, A, cA⟩, h1⟩ := hm.openEx
  have h2 : OKm E (cellsR B #[.slice P M.pts.length cP, .slice T M.tris.length cT, .slice F M.free.length cF, .slice A M.ats.length cA] 57 ::
    rowR 23 2 P M.pts.length cP (ptCells M.pts) :: rowR 37 9 T M.tris.length cT (trCells M.tris) :: rowR 3 1 F M.free.length cF (Iv M.free) :: rowR 3 1 A M.ats.length cA (Iv M.ats) :: μ) φ w := h1
  have h3 := h2.freeze.addF (r' := sliceR 4 (some ⟨B, 0, none⟩) 1 [.slice P M.pts.length cP, .slice T M.tris.length cT, .slice F M.free.length cF, .slice A M.ats.length cA]) (.head _) (fun S h => cellsR_slice (n := 1) rfl w S h)
  have h4 := h3.freezeRow.freezeRow.freezeRow.freezeRow
  refine ⟨⟨P, cP, T, cT, F, M.free.length, cF, A, M.ats.length, cA⟩, rfl, rfl, h4.weak (μr := []) (by simp) ?_⟩
  intro r hr
  simp only [frzFs, meshFs, List.cons_append, List.nil_append, List.mem_cons] at hr
  simp only [List.mem_cons]
  rcases hr with h | h | h | h | h | h
  · exact .inr (.inr (.inr (.inr (.inl h))))
  · exact .inr (.inr (.inr (.inl h)))
  · exact .inr (.inr (.inl h))
  · exact .inr (.inl h)
  · exact .inl h
  · exact .inr (.inr (.inr (.inr (.inr (.inr h)))))
theorem LJ_freezeMesh (h : ∀ hm : Mh, hm.nf = M.free.length → hm.na = M.ats.length → LJ E Q ops rest σ μ (frzFs B M hm ++ φ)) : LJ E Q ops rest σ (meshR B M :: μ) φ := fun a w ha hm => let ⟨x, h1, h2, h3⟩ := hm.freezeMesh; h x h1 h2 a w ha h3
theorem CJ_freezeMesh (h : ∀ hm : Mh, hm.nf = M.free.length → hm.na = M.ats.length → CJ E Q cd σ μ (frzFs B M hm ++ φ)) : CJ E Q cd σ (meshR B M :: μ) φ := fun a w ha hm => let ⟨x, h1, h2, h3⟩ := hm.freezeMesh; h x h1 h2 a w ha h3
theorem frz_mesh {h : Mh} : ∀ r, r ∈ meshFs B h M.pts M.tris → r ∈ frzFs B M h ++ φ := fun r hr => List.mem_append_left _ (List.mem_append_left _ hr)
/-- an own array becomes a fact, where it stands -/
theorem CJ_freezeRowK {e : TypeId} {size n n' c : Nat} {A : Option Addr} {xs xs' : List Value} (k : Nat) (hk : μ[k]? = some (rowR e size A n c xs)) (hn : n = n') (hx : xs = xs') (h : CJ E Q cd σ (μ.eraseIdx k) (sliceR size A n' xs' :: φ)) : CJ E Q cd σ μ φ := by
  subst hn; subst hx
  exact fun a w ha hm => h a w ha (hm.weak (μr := []) (by simpa using perm_at hk) (fun _ h => h)).freezeRow
end
theorem eqs_ptr (a : Addr) (x y : Operand) (w : World) :
    (do eqGuard .eql 28 x y (.pointer (some a)) (.pointer none); binOp .eql 28 (.pointer (some a)) (.pointer none) : Sem Value).run Try.prog w = .ok (.bool false) w := by
  simp only [Sem.run_bind]
  rw [show (eqGuard .eql 28 x y (.pointer (some a)) (.pointer none)) = pure () from rfl]
  simp only [Sem.run_pure, Result.andThen_ok]
  rw [run_eql_pointer_nil w 28 (some a) (by kernel_rfl)]
  rfl
/-- the triangles of a new mesh -/
def triNew (a b c : Int) : List Tr := [⟨a, b, c, 1, 2, 3, false, false, false⟩, ⟨c, b, -1, 3, 2, 0, false, false, false⟩, ⟨a, c, -1, 1, 3, 0, false, false, false⟩, ⟨b, a, -1, 2, 1, 0, false, false, false⟩]
theorem newM_tris (pts : List (Int × Int)) (a b c : Int) : (newM pts a b c).tris = triNew a b c := rfl
theorem newM_pts (pts : List (Int × Int)) (a b c : Int) : (newM pts a b c).pts = pts := rfl
theorem triNew_ok {pts : List (Int × Int)} {a b c : Nat} (ha : a < pts.length) (hb : b < pts.length) (hc : c < pts.length) : okTris pts (triNew a b c) := fun t ht hr => by
  simp only [triNew, List.mem_cons, List.not_mem_nil, or_false] at ht
  rcases ht with rfl | rfl | rfl | rfl
  · unfold Tr.ok; dsimp only; omega
  all_goals (obtain ⟨_, _, h⟩ := hr; dsimp only at h; omega)
theorem triNew_g {pts : List (Int × Int)} {a b c : Nat} (ha : a < pts.length) (hb : b < pts.length) (hc : c < pts.length) : gOk pts (triNew a b c) := fun t ht => by
  simp only [triNew, List.mem_cons, List.not_mem_nil, or_false] at ht
  rcases ht with rfl | rfl | rfl | rfl <;> dsimp only <;> omega
theorem triNew_reals {a b c : Nat} : reals (triNew a b c) = [(0, ⟨a, b, c, 1, 2, 3, false, false, false⟩)] := by
  simp [reals, triNew, realsF, Tr.real]
abbrev fitP : List (Int × Int) := [(0, 0), (3, 0), (0, 3)]
theorem fitP_ok : ∀ j, j < fitP.length → P2 (fitP.getD j (0, 0)).1 (fitP.getD j (0, 0)).2 := by
  intro j hj
  have : j = 0 ∨ j = 1 ∨ j = 2 := by simp at hj; omega
  rcases this with rfl | rfl | rfl <;> exact by unfold P2 Tm; simp
theorem p2_small {x y : Int} (hx : 0 ≤ x ∧ x ≤ 100) (hy : 0 ≤ y ∧ y ≤ 100) : P2 x y := by unfold P2 Tm; omega


set_option maxRecDepth 100000 in
set_option maxHeartbeats 4000000 in
theorem fit10_c  : Tri Try.prog 16 [] [] [] (Ret0 (.bool true)) := by
  refine Tri_of (N := 46) Try.func16 rfl ent_16 rfl rfl ?_
  intro w0 S0 T0
  show CJ _ _ _ [] _ _
  refine CJ_seq ?_
  refine CJ_reg ?_
  refine LJ_y rfl rfl (YJ_assign rfl) ?_
  refine LJ_nil ?_
  refine QJ_then ?_
  refine CJ_seq ?_
  refine CJ_reg ?_
  refine LJ_y rfl rfl (YJ_build1 (cs := [_, _]) lay_23 rfl rfl rfl) ?_
  refine LJ_y rfl rfl (YJ_build1 (cs := [_, _]) lay_23 rfl rfl rfl) ?_
  refine LJ_y rfl rfl (YJ_build1 (cs := [_, _]) lay_23 rfl rfl rfl) ?_
  refine LJ_buildSliceN (vs := [_, _, _]) (cs := [_, _, _, _, _, _]) rfl rfl elt_26 zer_23 (by decide) (by decide) rfl rfl rfl rfl rfl ?_
  intro b1
  refine LJ_freeze ?_
  refine LJ_addF (r' := sliceR 2 (some ⟨b1, 0, none⟩) 3 (ptCells fitP)) (.head _) (fun w S h => cellsR_slice (n := 3) rfl w S h) ?_
  refine LJ_callN rfl rfl rfl rfl rfl (new_pos (pts := fitP) (a := 0) (b := 1) (c := 2) (by decide) (by decide) (by decide) (by decide) fitP_ok (by decide)) (fun r h => by rw [List.mem_singleton] at h; subst h; exact .head _) ?_
  intro Bm _
  refine LJ_freezeMesh (fun hm hmF hmA => ?_)
  refine LJ_y rfl rfl (YJ_move rfl) ?_
  refine LJ_y rfl rfl (YJ_extract rfl rfl) ?_
  refine LJ_y rfl rfl (YJ_extract rfl rfl) ?_
  refine LJ_y rfl rfl (YJ_assign rfl) ?_
  refine LJ_y rfl rfl (YJ_assign rfl) ?_
  refine LJ_nil ?_
  refine QJ_then ?_
  refine CJ_seq ?_
  refine CJ_seq ?_
  refine CJ_reg ?_
  refine LJ_y rfl rfl (YJ_move rfl) ?_
  refine LJ_y rfl rfl (YJ_not rfl) ?_
  refine LJ_y rfl rfl (YJ_move rfl) ?_
  refine LJ_bool (c := false) rfl ?_
  refine LJ_y rfl rfl (YJ_move rfl) ?_
  refine LJ_y rfl rfl (YJ_eqs rfl rfl (fun w => eqs_ptr ..)) ?_
  refine LJ_y rfl rfl (YJ_pickF rfl rfl) ?_
  refine LJ_nil ?_
  refine QJ_then ?_
  refine CJ_condF rfl ?_
  refine CJ_skip ?_
  refine QJ_then ?_
  refine CJ_seq ?_
  refine CJ_reg ?_
  refine LJ_y rfl rfl (YJ_move rfl) ?_
  refine LJ_y rfl rfl (YJ_build1 (cs := [_, _]) lay_23 rfl rfl rfl) ?_
  refine LJ_call0 rfl rfl rfl rfl rfl (look_c (h := hm) fitP_ok (triNew_ok (a := 0) (b := 1) (c := 2) (by decide) (by decide) (by decide)) (by decide) (p2_small (x := 1) (y := 1) (by decide) (by decide))) (fun r h => frz_mesh r h) ?_
  refine LJ_val (v := .agg #[.int .i64 0, .int .i64 0, .int .i64 0, .int .i64 0]) (congrArg plV (show look fitP (triNew 0 1 2) (1, 1) = (0, 0, 0, 0) from by kernel_rfl)) ?_
  refine LJ_y rfl rfl (YJ_move rfl) ?_
  refine LJ_y rfl rfl (YJ_build1 (cs := [_, _]) lay_23 rfl rfl rfl) ?_
  refine LJ_call0 rfl rfl rfl rfl rfl (look_c (h := hm) fitP_ok (triNew_ok (a := 0) (b := 1) (c := 2) (by decide) (by decide) (by decide)) (by decide) (p2_small (x := 3) (y := 3) (by decide) (by decide))) (fun r h => frz_mesh r h) ?_
  refine LJ_val (v := .agg #[.int .i64 3, .int .i64 1, .int .i64 0, .int .i64 0]) (congrArg plV (show look fitP (triNew 0 1 2) (3, 3) = (3, 1, 0, 0) from by kernel_rfl)) ?_
  refine LJ_alloc (cs := #[_, _, _, _]) rfl rfl zer_42 rfl ?_
  intro b2
  refine LJ_alloc (cs := #[_, _, _, _]) rfl rfl zer_42 rfl ?_
  intro b3
  refine LJ_store (cs' := #[_, _, _, _]) (μ' := [_, _]) 1 rfl rfl rfl rfl tyi_42 rfl (Nat.le_of_ble_eq_true rfl) rfl rfl rfl ?_
  refine LJ_store (cs' := #[_, _, _, _]) (μ' := [_, _]) 0 rfl rfl rfl rfl tyi_42 rfl (Nat.le_of_ble_eq_true rfl) rfl rfl rfl ?_
  refine LJ_nil ?_
  refine QJ_then ?_
  refine CJ_seq ?_
  refine CJ_reg ?_
  first | refine LJ_y rfl rfl (YJ_fieldOwn rfl fld_42_0 rfl) ?_ | refine LJ_y rfl rfl (YJ_fieldAddr rfl fld_42_0) ?_
  first | refine LJ_y rfl rfl (YJ_loadL rfl tyi_3 (by repeat first | exact .head _ | apply List.Mem.tail) rfl) ?_ | refine LJ_y rfl rfl (YJ_loadFact rfl tyi_3 (by repeat first | exact .head _ | apply List.Mem.tail) rfl) ?_
  refine LJ_y rfl rfl (YJ_bin rfl rfl rfl) ?_
  refine LJ_y rfl rfl (YJ_move rfl) ?_
  refine LJ_bool (c := true) rfl ?_
  first | refine LJ_y rfl rfl (YJ_fieldOwn rfl fld_42_0 rfl) ?_ | refine LJ_y rfl rfl (YJ_fieldAddr rfl fld_42_0) ?_
  first | refine LJ_y rfl rfl (YJ_loadL rfl tyi_3 (by repeat first | exact .head _ | apply List.Mem.tail) rfl) ?_ | refine LJ_y rfl rfl (YJ_loadFact rfl tyi_3 (by repeat first | exact .head _ | apply List.Mem.tail) rfl) ?_
  refine LJ_y rfl rfl (YJ_bin rfl rfl rfl) ?_
  refine LJ_y rfl rfl (YJ_pickT rfl rfl) ?_
  refine LJ_y rfl rfl (YJ_move rfl) ?_
  refine LJ_bool (c := true) rfl ?_
  refine LJ_y rfl rfl (YJ_move rfl) ?_
  first | refine LJ_y rfl rfl (YJ_fieldOwn rfl fld_42_1 rfl) ?_ | refine LJ_y rfl rfl (YJ_fieldAddr rfl fld_42_1) ?_
  first | refine LJ_y rfl rfl (YJ_loadL rfl tyi_3 (by repeat first | exact .head _ | apply List.Mem.tail) rfl) ?_ | refine LJ_y rfl rfl (YJ_loadFact rfl tyi_3 (by repeat first | exact .head _ | apply List.Mem.tail) rfl) ?_
  refine LJ_call0 rfl rfl rfl rfl rfl (real_c (h := hm) (pts := fitP) (tris := triNew 0 1 2)) (fun r h => frz_mesh r h) ?_
  refine LJ_y rfl rfl (YJ_pickT rfl rfl) ?_
  refine LJ_y rfl rfl (YJ_move rfl) ?_
  refine LJ_bool (c := true) (by kernel_rfl) ?_
  refine LJ_y rfl rfl (YJ_move rfl) ?_
  first | refine LJ_y rfl rfl (YJ_fieldOwn rfl fld_42_1 rfl) ?_ | refine LJ_y rfl rfl (YJ_fieldAddr rfl fld_42_1) ?_
  first | refine LJ_y rfl rfl (YJ_loadL rfl tyi_3 (by repeat first | exact .head _ | apply List.Mem.tail) rfl) ?_ | refine LJ_y rfl rfl (YJ_loadFact rfl tyi_3 (by repeat first | exact .head _ | apply List.Mem.tail) rfl) ?_
  refine LJ_y rfl rfl (YJ_build1 (cs := [_, _]) lay_23 rfl rfl rfl) ?_
  refine LJ_call0 rfl rfl rfl rfl rfl (holds_c (h := hm) (tris := triNew 0 1 2) (t := ⟨0, 1, 2, 1, 2, 3, false, false, false⟩) fitP_ok (by decide) rfl (by unfold Tr.ok; decide) (p2_small (x := 0) (y := 0) (by decide) (by decide))) (fun r h => frz_mesh r h) ?_
  refine LJ_y rfl rfl (YJ_pickT rfl rfl) ?_
  refine LJ_y rfl rfl (YJ_assign rfl) ?_
  refine LJ_nil ?_
  refine QJ_then ?_
  refine CJ_ret ?_
  refine QJ_fin (.inl rfl) (μ' := []) (μr := _) (φ' := []) (res_tmp rfl rfl) (List.Perm.refl _) (fun _ h => nomatch h) ?_
  exact ⟨congrArg Value.bool (by kernel_rfl), rfl, rfl⟩

end Go.Proofs.Ytbanlhlggkdanaa
