/- The walks of the first real triangle, and of the place of a point by looking at all triangles. -/
import Derived.Test.YtbanlhlggkdanaaG3
set_option linter.unusedSimpArgs false
set_option linter.unusedVariables false
namespace Go.Proofs.Ytbanlhlggkdanaa
open Go.RowKit

theorem ent_59 : Enter Try.prog 59 = true := by kernel_rfl
theorem ent_23 : Enter Try.prog 23 = true := by kernel_rfl
theorem fld_37_1 : fld Try.prog 37 1 = some 3 := by kernel_rfl
theorem fld_42_1 : fld Try.prog 42 1 = some 1 := by kernel_rfl


def firstI (tris : List Tr) : Int := match reals tris with
  | [] => -1
  | (i, _) :: _ => i
theorem all_sub {b B : Nat} {h : Mh} {pts : List (Int × Int)} {tris : List Tr} {φ : List Res} (hm : ∀ r, r ∈ meshFs B h pts tris → r ∈ φ) : ∀ r, r ∈ allFs b B h pts tris → r ∈ [sliceR 1 (some ⟨b, 0, none⟩) 1 [.pointer (some ⟨B, 0, none⟩)]] ++ φ := fun r hr => by
  rcases List.mem_cons.1 hr with rfl | hr
  · exact .head _
  · exact .tail _ (hm r hr)


set_option maxRecDepth 100000 in
set_option maxHeartbeats 1000000 in
theorem first_c {B : Nat} {h : Mh} {pts : List (Int × Int)} {tris : List Tr} (hlen : tris.length ≤ 1073741824) : Tri Try.prog 59 [.pointer (some ⟨B, 0, none⟩)] [] (meshFs B h pts tris) (Ret0 (.int .i64 (firstI tris))) := by
  refine Tri_ofM (N := 9) Try.func59 rfl ent_59 rfl rfl ?_
  intro w0 S0 T0
  show CJ _ _ _ [(0, _)] _ _
  refine CJ_seq ?_
  refine CJ_reg ?_
  refine LJ_alloc (cs := #[_]) rfl rfl zer_3 rfl ?_
  intro b1
  refine LJ_nil ?_
  refine QJ_then ?_
  refine CJ_seq ?_
  refine CJ_seq ?_
  refine CJ_reg ?_
  refine LJ_y rfl rfl (YJ_move rfl) ?_
  refine LJ_callX rfl rfl rfl rfl rfl (all_c (B := B)) (fun _ h => nomatch h) ?_
  intro bA _
  refine LJ_nil ?_
  refine QJ_then ?_
  refine CJ_block ?_
  refine CJ_rangeFunc (μr := []) rfl (all_it (h := h) (pts := pts) (tris := tris) hlen) (fun r h => h) (fun _ => rfl) (by kernel_rfl) (L := { ι := Unit, I := fun pre _ => pre = [], F := fun _ _ => ([cellsR b1 #[.int .i64 0] 3], []), κ := Nat × Tr, Ix := fun c pre x => c = .ret ∧ pre = [x], Fx := fun _ x => ([cellsR b1 #[.int .i64 x.1] 3], []) }) () rfl (permI [] rfl) (fun _ h => nomatch h) ?_ ?_ ?_
  · intro lR DR fnR tmpsR WR SR TR pre xR iR hpre hI
    obtain ⟨n, t⟩ := xR
    subst hI
    show RJ _ _ _ _ _ ((7, _) :: (6, _) :: _) (objR lR _ :: defR DR :: _ :: []) _
    refine RJ_reg (by kernel_rfl) ?_
    refine LJ_y rfl rfl (YJ_assign rfl) ?_
    refine LJ_nil ?_
    refine QJ_begin (μr := [_, _]) (permI [] rfl) ?_
    refine RJ_block ?_
    refine RJ_seq ?_
    refine RJ_reg (by kernel_rfl) ?_
    refine LJ_y rfl rfl (YJ_move rfl) ?_
    refine LJ_store (cs' := #[_]) (μ' := [_, _, _]) 2 rfl rfl rfl rfl tyi_3 rfl (Nat.le_of_ble_eq_true rfl) rfl rfl rfl ?_
    refine LJ_nil ?_
    refine QJ_thenR (by repeat with_reducible first | exact no_round | exact no_begin | apply no_then | apply no_block) ?_
    refine RJ_ret ?_
    refine QJ_in_ret ?_
    refine QJ_leave (μ1 := [_, _]) (μ2 := []) (φ1 := []) rfl (permI [] rfl) (fun _ h => nomatch h) ?_
    exact .inr ⟨rfl, .ret, (n, t), ⟨rfl, rfl⟩, rfl, rfl⟩
  · intro D0 iR hI
    have e : reals tris = [] := hI
    show QJ _ _ _ _ (defR D0 :: _ :: _) _
    refine QJ_in_normal ?_
    refine QJ_then ?_
    refine CJ_seq ?_
    refine CJ_reg ?_
    refine LJ_store (cs' := #[_]) (μ' := [_, _]) 1 rfl rfl rfl rfl tyi_3 rfl (Nat.le_of_ble_eq_true rfl) rfl rfl rfl ?_
    refine LJ_nil ?_
    refine QJ_then ?_
    refine CJ_ret ?_
    refine QJ_finM (.inl rfl) [D0] rfl (μ' := []) (μr := [_]) (φ' := []) (res_cell1 rfl rfl (by repeat first | exact .head _ | apply List.Mem.tail) tyi_3) (permI [] rfl) (fun _ h => nomatch h) ?_
    exact ⟨congrArg (Value.int .i64) (show _ = firstI tris by unfold firstI; rw [e]), rfl, rfl⟩
  · intro D0 cR pre iR hpre hI
    obtain ⟨rfl, rfl⟩ := hI
    obtain ⟨n, t⟩ := iR
    show CJ _ _ _ _ (defR D0 :: _ :: _) _
    refine CJ_ret ?_
    refine QJ_in_ret ?_
    refine QJ_then_ret ?_
    refine QJ_finM (.inl rfl) [D0] rfl (μ' := []) (μr := [_]) (φ' := []) (res_cell1 rfl rfl (by repeat first | exact .head _ | apply List.Mem.tail) tyi_3) (permI [] rfl) (fun _ h => nomatch h) ?_
    obtain ⟨r, hr⟩ := hpre
    exact ⟨congrArg (Value.int .i64) (show _ = firstI tris by unfold firstI; rw [← hr]; rfl), rfl, rfl⟩


/-- which ghost has the point beyond its edge, and the least number -/
def lookStep (pts : List (Int × Int)) (tris : List Tr) (p : Int × Int) (t : Tr) (out : Int) (k : Nat) : Int :=
  if ¬ isReal tris (t.n k) ∧ bey pts t k p ∧ (out < 0 ∨ t.n k < out) then t.n k else out
def lookTri (pts : List (Int × Int)) (tris : List Tr) (p : Int × Int) (out : Int) (x : Nat × Tr) : Int := [0, 1, 2].foldl (lookStep pts tris p x.2) out
def look (pts : List (Int × Int)) (tris : List Tr) (p : Int × Int) : Pl :=
  match (reals tris).find? (fun x => decide (hld pts x.2 p)) with
  | some x => place pts x.2 x.1 p
  | none => (3, (reals tris).foldl (lookTri pts tris p) (-1), 0, 0)
theorem find_none {α : Type} {l : List α} {f : α → Prop} [DecidablePred f] (h : ∀ x, x ∈ l → ¬ f x) : l.find? (fun x => decide (f x)) = none := by
  rw [List.find?_eq_none]
  intro x hx
  simpa using h x hx
theorem find_at {α : Type} {l pre : List α} {f : α → Prop} [DecidablePred f] {x : α} (h : ∀ y, y ∈ pre → ¬ f y) (hx : f x) (hp : pre ++ [x] <+: l) : l.find? (fun x => decide (f x)) = some x := by
  obtain ⟨r, rfl⟩ := hp
  rw [List.append_assoc, List.find?_append, find_none h]
  simp [hx]
theorem look_found {pts : List (Int × Int)} {tris : List Tr} {p : Int × Int} {pre : List (Nat × Tr)} {x : Nat × Tr} (h : ∀ y, y ∈ pre → ¬ hld pts y.2 p) (hx : hld pts x.2 p) (hp : pre ++ [x] <+: reals tris) : look pts tris p = place pts x.2 x.1 p := by
  unfold look
  have e := find_at (l := reals tris) (f := fun (x : Nat × Tr) => hld pts x.2 p) h hx hp
  rw [e]
theorem look_none {pts : List (Int × Int)} {tris : List Tr} {p : Int × Int} (h : ∀ y, y ∈ reals tris → ¬ hld pts y.2 p) : look pts tris p = (3, (reals tris).foldl (lookTri pts tris p) (-1), 0, 0) := by
  unfold look
  have e := find_none (l := reals tris) (f := fun (x : Nat × Tr) => hld pts x.2 p) h
  rw [e]
/-- a triangle of the mesh, by its place -/
theorem beyond_c {B : Nat} {h : Mh} {pts : List (Int × Int)} {tris : List Tr} {t : Tr} {p1 p2 : Int} {k : Nat} (hk : k < 3) (hP : ∀ j, j < pts.length → P2 (pts.getD j (0, 0)).1 (pts.getD j (0, 0)).2) (hv : t.ok pts.length) (hp : P2 p1 p2) :
    Tri Try.prog 53 [.pointer (some ⟨B, 0, none⟩), .agg t.cells.toArray, .int .i64 k, ptv p1 p2] [] (meshFs B h pts tris) (Ret0 (.bool (decide (bey pts t k (p1, p2))))) := by
  obtain ⟨v0, v1, v2⟩ := hv
  match k, hk with
  | 0, _ => exact beyond0_c hP v1 v2 hp
  | 1, _ => exact beyond1_c hP v2 v0 hp
  | 2, _ => exact beyond2_c hP v0 v1 hp
/-- the points of the real triangles are points of the mesh -/
def okTris (pts : List (Int × Int)) (tris : List Tr) : Prop := ∀ t, t ∈ tris → t.real → t.ok pts.length
theorem okAt {pts : List (Int × Int)} {tris : List Tr} (h : okTris pts tris) {pre : List (Nat × Tr)} {n : Nat} {t : Tr} (hp : pre ++ [(n, t)] <+: reals tris) : tris[n]? = some t ∧ t.real ∧ t.ok pts.length := by
  have hm : (n, t) ∈ reals tris := hp.subset (by simp)
  have := reals_mem.1 hm
  exact ⟨this.1, this.2, h t (List.mem_of_getElem? this.1) this.2⟩
theorem n_get {t : Tr} {k : Nat} (hk : k < 3) : lget ([.int .i64 t.n0, .int .i64 t.n1, .int .i64 t.n2] : List Value) (((k : Nat) : Int).toNat * 1) = some (.int .i64 (t.n k)) := by
  match k, hk with
  | 0, _ => rfl
  | 1, _ => rfl
  | 2, _ => rfl
theorem look_three {pts : List (Int × Int)} {tris : List Tr} {p : Int × Int} {t : Tr} {out : Int} {k : Nat} (hk : k < 3) : ([0, 1, 2].take (k + 1)).foldl (lookStep pts tris p t) out = lookStep pts tris p t (([0, 1, 2].take k).foldl (lookStep pts tris p t) out) k := by
  match k, hk with
  | 0, _ => rfl
  | 1, _ => rfl
  | 2, _ => rfl
theorem cast_idx {tris : List Tr} {n : Nat} {t : Tr} (h : tris[n]? = some t) : tris[(n : Int).toNat]? = some t := by simpa using h


set_option maxRecDepth 100000 in
set_option maxHeartbeats 4000000 in
theorem look_c {B : Nat} {h : Mh} {pts : List (Int × Int)} {tris : List Tr} {p1 p2 : Int} (hP : ∀ j, j < pts.length → P2 (pts.getD j (0, 0)).1 (pts.getD j (0, 0)).2) (hT : okTris pts tris) (hlen : tris.length ≤ 1073741824) (hp : P2 p1 p2) : Tri Try.prog 23 [.pointer (some ⟨B, 0, none⟩), ptv p1 p2] [] (meshFs B h pts tris) (Ret0 (plV (look pts tris (p1, p2)))) := by
  refine Tri_ofM (N := 66) Try.func23 rfl ent_23 rfl rfl ?_
  intro w0 S0 T0
  show CJ _ _ _ [(0, _), (1, _)] _ _
  refine CJ_seq ?_
  refine CJ_reg ?_
  refine LJ_box (cs := #[_]) rfl rfl rfl rfl ?_
  intro b1
  refine LJ_box (cs := #[_, _]) rfl rfl rfl rfl ?_
  intro b2
  refine LJ_alloc (cs := #[_, _, _, _]) rfl rfl zer_42 rfl ?_
  intro b3
  refine LJ_nil ?_
  refine QJ_then ?_
  refine CJ_seq ?_
  refine CJ_seq ?_
  refine CJ_reg ?_
  first | refine LJ_y rfl rfl (YJ_loadL rfl tyi_28 (by repeat first | exact .head _ | apply List.Mem.tail) rfl) ?_ | refine LJ_y rfl rfl (YJ_loadFact rfl tyi_28 (by repeat first | exact .head _ | apply List.Mem.tail) rfl) ?_
  refine LJ_callX rfl rfl rfl rfl rfl (all_c (B := B)) (fun _ h => nomatch h) ?_
  intro bA _
  refine LJ_nil ?_
  refine QJ_then ?_
  refine CJ_block ?_
  refine CJ_rangeFunc (μr := []) rfl (all_it (h := h) (pts := pts) (tris := tris) hlen) (fun r h => h) (fun _ => rfl) (by kernel_rfl) (L := { ι := Unit, I := fun pre _ => ∀ x, x ∈ pre → ¬ hld pts x.2 (p1, p2), F := fun _ _ => ([cellsR b3 #[.int .i64 0, .int .i64 0, .int .i64 0, .int .i64 0] 42, cellsR b2 #[.int .i64 p1, .int .i64 p2] 23, cellsR b1 #[.pointer (some ⟨B, 0, none⟩)] 28], []), κ := Nat × Tr, Ix := fun c pre x => c = .ret ∧ ∃ pre', pre = pre' ++ [x] ∧ (∀ y, y ∈ pre' → ¬ hld pts y.2 (p1, p2)) ∧ hld pts x.2 (p1, p2), Fx := fun _ x => ([cellsR b3 #[.int .i64 (place pts x.2 x.1 (p1, p2)).1, .int .i64 (place pts x.2 x.1 (p1, p2)).2.1, .int .i64 (place pts x.2 x.1 (p1, p2)).2.2.1, .int .i64 (place pts x.2 x.1 (p1, p2)).2.2.2] 42, cellsR b2 #[.int .i64 p1, .int .i64 p2] 23, cellsR b1 #[.pointer (some ⟨B, 0, none⟩)] 28], []) }) () (fun _ h => nomatch h) (permI [] rfl) (fun _ h => nomatch h) ?_ ?_ ?_
  · intro lR DR fnR tmpsR WR SR TR pre xR iR hpre hI
    obtain ⟨n, t⟩ := xR
    obtain ⟨hti, htr, hto⟩ := okAt hT hpre
    have hnl := (List.getElem?_eq_some_iff.1 hti).1
    show RJ _ _ _ _ _ ((14, _) :: (13, _) :: _) (objR lR _ :: defR DR :: _ :: _ :: _ :: []) _
    refine RJ_reg (by kernel_rfl) ?_
    refine LJ_y rfl rfl (YJ_assign rfl) ?_
    refine LJ_nil ?_
    refine QJ_begin (μr := [_, _, _, _]) (permI [] rfl) ?_
    refine RJ_block ?_
    refine RJ_seq ?_
    refine RJ_reg (by kernel_rfl) ?_
    first | refine LJ_y rfl rfl (YJ_loadL rfl tyi_28 (by repeat first | exact .head _ | apply List.Mem.tail) rfl) ?_ | refine LJ_y rfl rfl (YJ_loadFact rfl tyi_28 (by repeat first | exact .head _ | apply List.Mem.tail) rfl) ?_
    refine LJ_y rfl rfl (YJ_move rfl) ?_
    first | refine LJ_y rfl rfl (YJ_loadN (vs := [_, _]) rfl tyi_23 (by repeat first | exact .head _ | apply List.Mem.tail) rfl rfl) ?_ | refine LJ_y rfl rfl (YJ_loadFactN (vs := [_, _]) rfl tyi_23 (by repeat first | exact .head _ | apply List.Mem.tail) rfl rfl) ?_
    refine LJ_call0 rfl rfl rfl rfl rfl (holds_c (h := h) (tris := tris) hP (Int.natCast_nonneg n) (cast_idx hti) hto hp) (fun r h => .tail _ h) ?_
    refine LJ_nil ?_
    refine QJ_thenR (by repeat with_reducible first | exact no_round | exact no_begin | apply no_then | apply no_block) ?_
    refine RJ_cond rfl (fun h18 => ?_) (fun h18 => ?_)
    · try simp only [decide_eq_true_eq, decide_eq_false_iff_not, Bool.not_eq_true', Bool.not_eq_false', Bool.and_eq_true, Bool.and_eq_false_iff, beq_iff_eq, bne_iff_ne, beq_eq_false_iff_ne, bne_eq_false_iff_eq, ne_eq, decide_eq_decide] at h18
      refine RJ_seq ?_
      refine RJ_reg (by kernel_rfl) ?_
      first | refine LJ_y rfl rfl (YJ_loadL rfl tyi_28 (by repeat first | exact .head _ | apply List.Mem.tail) rfl) ?_ | refine LJ_y rfl rfl (YJ_loadFact rfl tyi_28 (by repeat first | exact .head _ | apply List.Mem.tail) rfl) ?_
      refine LJ_y rfl rfl (YJ_move rfl) ?_
      first | refine LJ_y rfl rfl (YJ_loadN (vs := [_, _]) rfl tyi_23 (by repeat first | exact .head _ | apply List.Mem.tail) rfl rfl) ?_ | refine LJ_y rfl rfl (YJ_loadFactN (vs := [_, _]) rfl tyi_23 (by repeat first | exact .head _ | apply List.Mem.tail) rfl rfl) ?_
      refine LJ_call0 rfl rfl rfl rfl rfl (within_c (h := h) (tris := tris) hP (Int.natCast_nonneg n) (cast_idx hti) hto hp) (fun r h => .tail _ h) ?_
      refine LJ_store (cs' := #[_, _, _, _]) (μ' := [_, _, _, _, _]) 2 rfl rfl rfl rfl tyi_42 rfl (Nat.le_of_ble_eq_true rfl) rfl rfl rfl ?_
      refine LJ_nil ?_
      refine QJ_thenR (by repeat with_reducible first | exact no_round | exact no_begin | apply no_then | apply no_block) ?_
      refine RJ_ret ?_
      refine QJ_in_ret ?_
      refine QJ_leave (μ1 := [_, _, _, _]) (μ2 := []) (φ1 := []) rfl (permI [] rfl) (fun _ h => nomatch h) ?_
      exact .inr ⟨rfl, .ret, (n, t), ⟨rfl, pre, rfl, hI, h18⟩, rfl, rfl⟩
    · try simp only [decide_eq_true_eq, decide_eq_false_iff_not, Bool.not_eq_true', Bool.not_eq_false', Bool.and_eq_true, Bool.and_eq_false_iff, beq_iff_eq, bne_iff_ne, beq_eq_false_iff_ne, bne_eq_false_iff_eq, ne_eq, decide_eq_decide] at h18
      refine RJ_skip ?_
      refine QJ_in_normal ?_
      refine QJ_again (μ1 := [_, _, _, _]) (μ2 := []) (φ1 := []) (permI [] rfl) (fun _ h => nomatch h) ?_
      exact .inl ⟨rfl, (), (fun y hy => by
        rcases List.mem_append.1 hy with hy | hy
        · exact hI y hy
        · rw [List.mem_singleton] at hy; subst hy; exact h18), rfl, rfl⟩
  · intro D0 iR hI
    have hno : ∀ x, x ∈ reals tris → ¬ hld pts x.2 (p1, p2) := hI
    show QJ _ _ _ _ (defR D0 :: _ :: _ :: _ :: _) _
    refine QJ_in_normal ?_
    refine QJ_then ?_
    refine CJ_seq ?_
    refine CJ_reg ?_
    refine LJ_y rfl rfl (YJ_build1 (cs := [_, _, _, _]) lay_42 rfl rfl rfl) ?_
    refine LJ_alloc (cs := #[_, _, _, _]) rfl rfl zer_42 rfl ?_
    intro b4
    refine LJ_store (cs' := #[_, _, _, _]) (μ' := [_, _, _, _, _]) 0 rfl rfl rfl rfl tyi_42 rfl (Nat.le_of_ble_eq_true rfl) rfl rfl rfl ?_
    refine LJ_nil ?_
    refine QJ_then ?_
    refine CJ_seq ?_
    refine CJ_seq ?_
    refine CJ_reg ?_
    first | refine LJ_y rfl rfl (YJ_loadL rfl tyi_28 (by repeat first | exact .head _ | apply List.Mem.tail) rfl) ?_ | refine LJ_y rfl rfl (YJ_loadFact rfl tyi_28 (by repeat first | exact .head _ | apply List.Mem.tail) rfl) ?_
    refine LJ_callX rfl rfl rfl rfl rfl (all_c (B := B)) (fun _ h => nomatch h) ?_
    intro bB _
    refine LJ_nil ?_
    refine QJ_then ?_
    refine CJ_block ?_
    refine CJ_rangeFunc (μr := [_, _]) rfl (all_it (h := h) (pts := pts) (tris := tris) hlen) (all_sub (fun r h => .tail _ h)) (fun _ => rfl) (by kernel_rfl) (L := { ι := Int, I := fun pre o => o = pre.foldl (lookTri pts tris (p1, p2)) (-1), F := fun _ o => ([cellsR b4 #[.int .i64 3, .int .i64 o, .int .i64 0, .int .i64 0] 42, cellsR b2 #[.int .i64 p1, .int .i64 p2] 23, cellsR b1 #[.pointer (some ⟨B, 0, none⟩)] 28], []), κ := Unit, Ix := fun _ _ _ => False, Fx := fun _ _ => ([], []) }) (-1) rfl (permI [0, 2, 2] rfl) (fun _ h => nomatch h) ?_ ?_ ?_
    · intro lR DR fnR tmpsR WR SR TR pre xR iR hpre hI
      obtain ⟨n, t⟩ := xR
      obtain ⟨hti, htr, hto⟩ := okAt hT hpre
      have hnl := (List.getElem?_eq_some_iff.1 hti).1
      obtain ⟨oR, hoR⟩ : ∃ o, iR = o := ⟨_, rfl⟩
      subst hoR
      show RJ _ _ _ _ _ ((27, _) :: (26, _) :: _) (objR lR _ :: defR DR :: _ :: _ :: _ :: []) _
      refine RJ_seq ?_
      refine RJ_reg (by kernel_rfl) ?_
      refine LJ_y rfl rfl (YJ_assign rfl) ?_
      refine LJ_nil ?_
      refine QJ_thenR (by repeat with_reducible first | exact no_round | exact no_begin | apply no_then | apply no_block) ?_
      refine RJ_reg (by kernel_rfl) ?_
      refine LJ_alloc (cs := #[_, _, _, _, _, _, _, _, _]) rfl rfl zer_37 rfl ?_
      intro b5
      refine LJ_store (cs' := #[_, _, _, _, _, _, _, _, _]) (μ' := [_, _, _, _, _, _]) 0 rfl rfl rfl rfl tyi_37 rfl (Nat.le_of_ble_eq_true rfl) rfl (wr_all rfl) rfl ?_
      refine LJ_nil ?_
      refine QJ_begin (μr := [_, _, _, _, _]) (permI [1] rfl) ?_
      refine RJ_block ?_
      refine RJ_seq ?_
      refine RJ_reg (by kernel_rfl) ?_
      first | refine LJ_y rfl rfl (YJ_fieldOwn rfl fld_37_1 rfl) ?_ | refine LJ_y rfl rfl (YJ_fieldAddr rfl fld_37_1) ?_
      first | refine LJ_y rfl rfl (YJ_loadN (vs := [_, _, _]) rfl tyi_34 (by repeat first | exact .head _ | apply List.Mem.tail) rfl rfl) ?_ | refine LJ_y rfl rfl (YJ_loadFactN (vs := [_, _, _]) rfl tyi_34 (by repeat first | exact .head _ | apply List.Mem.tail) rfl rfl) ?_
      refine LJ_y rfl rfl (YJ_move rfl) ?_
      refine LJ_nil ?_
      refine QJ_thenR (by repeat with_reducible first | exact no_round | exact no_begin | apply no_then | apply no_block) ?_
      refine RJ_block ?_
      refine RJ_loopF (F := fun (i : Nat × Int) => ⟨[(2, .pointer (some ⟨b1, 0, none⟩)), (3, .pointer (some ⟨b2, 0, none⟩)), (6, .pointer (some ⟨b4, 0, none⟩)), (7, .int .i64 (n : Nat)), (29, .agg #[.int .i64 t.n0, .int .i64 t.n1, .int .i64 t.n2]), (30, .int .i64 (i.1 : Nat))], [cellsR b4 #[.int .i64 3, .int .i64 i.2, .int .i64 0, .int .i64 0] 42], []⟩) (I := fun (i : Nat × Int) => i.1 ≤ 3 ∧ i.2 = ([0, 1, 2].take i.1).foldl (lookStep pts tris (p1, p2) t) iR) (m := fun (i : Nat × Int) => 3 - i.1) (0, iR) (μr := [_, _, _, _, _]) ⟨Nat.zero_le _, rfl⟩ (And.intro rfl (And.intro rfl (And.intro rfl (And.intro rfl (And.intro rfl (And.intro rfl (trivial))))))) (permI [3] rfl) (fun _ h => nomatch h) ?_
      rintro ⟨k, out⟩ ⟨hk, hout⟩
      try dsimp only at hk
      try dsimp only at hout
      show RJ _ _ _ _ _ [(2, .pointer (some ⟨b1, 0, none⟩)), (3, .pointer (some ⟨b2, 0, none⟩)), (6, .pointer (some ⟨b4, 0, none⟩)), (7, .int .i64 (n : Nat)), (29, .agg #[.int .i64 t.n0, .int .i64 t.n1, .int .i64 t.n2]), (30, .int .i64 (k : Nat))] (cellsR b4 #[.int .i64 3, .int .i64 out, .int .i64 0, .int .i64 0] 42 :: _ :: _ :: _ :: _ :: _ :: _) _
      refine RJ_seq ?_
      refine RJ_reg (by kernel_rfl) ?_
      refine LJ_y rfl rfl (YJ_bin rfl rfl rfl) ?_
      refine LJ_nil ?_
      refine QJ_thenR (by repeat with_reducible first | exact no_round | exact no_begin | apply no_then | apply no_block) ?_
      refine RJ_seq ?_
      refine RJ_cond rfl (fun h31 => ?_) (fun h31 => ?_)
      · try simp only [decide_eq_true_eq, decide_eq_false_iff_not, Bool.not_eq_true', Bool.not_eq_false', Bool.and_eq_true, Bool.and_eq_false_iff, beq_iff_eq, bne_iff_ne, beq_eq_false_iff_ne, bne_eq_false_iff_eq, ne_eq, decide_eq_decide] at h31
        have hk3 : k < 3 := by omega
        refine RJ_skip ?_
        refine QJ_thenR (by repeat with_reducible first | exact no_round | exact no_begin | apply no_then | apply no_block) ?_
        refine RJ_seq ?_
        refine RJ_block ?_
        refine RJ_seq ?_
        refine RJ_reg (by kernel_rfl) ?_
        refine LJ_y rfl rfl (YJ_move rfl) ?_
        refine LJ_y rfl rfl (YJ_index1 rfl rfl arrt_34 tyi_3 (by omega) (by omega) (n_get hk3)) ?_
        refine LJ_y rfl rfl (YJ_assign rfl) ?_
        refine LJ_y rfl rfl (YJ_assign rfl) ?_
        refine LJ_nil ?_
        refine QJ_thenR (by repeat with_reducible first | exact no_round | exact no_begin | apply no_then | apply no_block) ?_
        refine RJ_seq ?_
        refine RJ_regD mix (by kernel_rfl) (fun _ _ _ _ _ h => h) _ _ (fun _ h => h) (fun _ h => h) (by kernel_rfl) ?_
        first | refine AJ_y 0 rfl (by kernel_rfl) (by kernel_rfl) rfl rfl (YJ_loadL rfl tyi_28 (by repeat first | exact .head _ | apply List.Mem.tail) rfl) ?_ | refine AJ_y 0 rfl (by kernel_rfl) (by kernel_rfl) rfl rfl (YJ_loadFact rfl tyi_28 (by repeat first | exact .head _ | apply List.Mem.tail) rfl) ?_
        refine AJ_y 1 rfl (by kernel_rfl) (by kernel_rfl) rfl rfl (YJ_move rfl) ?_
        refine AJ_call0 2 rfl (by kernel_rfl) rfl rfl rfl rfl rfl (real_c (h := h) (pts := pts) (tris := tris)) (fun r h => .tail _ (.tail _ h)) ?_
        refine AJ_y 3 rfl (by kernel_rfl) (by kernel_rfl) rfl rfl (YJ_not rfl) ?_
        refine AJ_y 4 rfl (by kernel_rfl) (by kernel_rfl) rfl rfl (YJ_move rfl) ?_
        refine AJ_boolC (fun h38 => ?_) (fun h38 => ?_)
        · try simp only [decide_eq_true_eq, decide_eq_false_iff_not, Bool.not_eq_true', Bool.not_eq_false', Bool.and_eq_true, Bool.and_eq_false_iff, beq_iff_eq, bne_iff_ne, beq_eq_false_iff_ne, bne_eq_false_iff_eq, ne_eq, decide_eq_decide] at h38
          first | refine AJ_y 5 rfl (by kernel_rfl) (by kernel_rfl) rfl rfl (YJ_loadL rfl tyi_28 (by repeat first | exact .head _ | apply List.Mem.tail) rfl) ?_ | refine AJ_y 5 rfl (by kernel_rfl) (by kernel_rfl) rfl rfl (YJ_loadFact rfl tyi_28 (by repeat first | exact .head _ | apply List.Mem.tail) rfl) ?_
          first | refine AJ_y 6 rfl (by kernel_rfl) (by kernel_rfl) rfl rfl (YJ_loadL rfl tyi_28 (by repeat first | exact .head _ | apply List.Mem.tail) rfl) ?_ | refine AJ_y 6 rfl (by kernel_rfl) (by kernel_rfl) rfl rfl (YJ_loadFact rfl tyi_28 (by repeat first | exact .head _ | apply List.Mem.tail) rfl) ?_
          refine AJ_y 7 rfl (by kernel_rfl) (by kernel_rfl) rfl rfl (YJ_nilCheck rfl) ?_
          first | refine AJ_y 8 rfl (by kernel_rfl) (by kernel_rfl) rfl rfl (YJ_fieldOwn rfl fld_57_1 rfl) ?_ | refine AJ_y 8 rfl (by kernel_rfl) (by kernel_rfl) rfl rfl (YJ_fieldAddr rfl fld_57_1) ?_
          refine AJ_y 9 rfl (by kernel_rfl) (by kernel_rfl) rfl rfl (YJ_loadFactP (A := some ⟨B, 0, none⟩) (j := 1) rfl rfl tyi_54 (by repeat first | exact .head _ | apply List.Mem.tail) rfl) ?_
          refine AJ_y 10 rfl (by kernel_rfl) (by kernel_rfl) rfl rfl (YJ_move rfl) ?_
          first | refine AJ_y 11 rfl (by kernel_rfl) (by kernel_rfl) rfl rfl (YJ_ixOwn rfl rfl elt_54 (by omega) (by omega)) ?_ | refine AJ_y 11 rfl (by kernel_rfl) (by kernel_rfl) rfl rfl (YJ_ixFact rfl rfl elt_54 (by repeat first | exact .head _ | apply List.Mem.tail) (by decide) (by omega) (by omega) (by omega)) ?_
          refine AJ_y 12 rfl (by kernel_rfl) (by kernel_rfl) rfl rfl (YJ_loadFactN (vs := [.int .i64 t.v0, .int .i64 t.v1, .int .i64 t.v2, .int .i64 t.n0, .int .i64 t.n1, .int .i64 t.n2, .bool t.f0, .bool t.f1, .bool t.f2]) (xs := trCells tris) rfl tyi_37 (by repeat first | exact .head _ | apply List.Mem.tail) (trCells_row (cast_idx hti)) rfl) ?_
          refine AJ_y 13 rfl (by kernel_rfl) (by kernel_rfl) rfl rfl (YJ_move rfl) ?_
          first | refine AJ_y 14 rfl (by kernel_rfl) (by kernel_rfl) rfl rfl (YJ_loadN (vs := [_, _]) rfl tyi_23 (by repeat first | exact .head _ | apply List.Mem.tail) rfl rfl) ?_ | refine AJ_y 14 rfl (by kernel_rfl) (by kernel_rfl) rfl rfl (YJ_loadFactN (vs := [_, _]) rfl tyi_23 (by repeat first | exact .head _ | apply List.Mem.tail) rfl rfl) ?_
          refine AJ_call0 15 rfl (by kernel_rfl) rfl rfl rfl rfl rfl (beyond_c (k := k) (h := h) (tris := tris) hk3 hP hto hp) (fun r h => .tail _ (.tail _ h)) ?_
          refine AJ_y 16 rfl (by kernel_rfl) (by kernel_rfl) rfl rfl (YJ_pickT rfl rfl) ?_
          refine AJ_y 17 rfl (by kernel_rfl) (by kernel_rfl) rfl rfl (YJ_move rfl) ?_
          refine AJ_boolC (fun h51 => ?_) (fun h51 => ?_)
          · try simp only [decide_eq_true_eq, decide_eq_false_iff_not, Bool.not_eq_true', Bool.not_eq_false', Bool.and_eq_true, Bool.and_eq_false_iff, beq_iff_eq, bne_iff_ne, beq_eq_false_iff_ne, bne_eq_false_iff_eq, ne_eq, decide_eq_decide] at h51
            first | refine AJ_y 18 rfl (by kernel_rfl) (by kernel_rfl) rfl rfl (YJ_fieldOwn rfl fld_42_1 rfl) ?_ | refine AJ_y 18 rfl (by kernel_rfl) (by kernel_rfl) rfl rfl (YJ_fieldAddr rfl fld_42_1) ?_
            first | refine AJ_y 19 rfl (by kernel_rfl) (by kernel_rfl) rfl rfl (YJ_loadL rfl tyi_3 (by repeat first | exact .head _ | apply List.Mem.tail) rfl) ?_ | refine AJ_y 19 rfl (by kernel_rfl) (by kernel_rfl) rfl rfl (YJ_loadFact rfl tyi_3 (by repeat first | exact .head _ | apply List.Mem.tail) rfl) ?_
            refine AJ_y 20 rfl (by kernel_rfl) (by kernel_rfl) rfl rfl (YJ_bin rfl rfl rfl) ?_
            refine AJ_y 21 rfl (by kernel_rfl) (by kernel_rfl) rfl rfl (YJ_move rfl) ?_
            refine AJ_boolC (fun h55 => ?_) (fun h55 => ?_)
            · try simp only [decide_eq_true_eq, decide_eq_false_iff_not, Bool.not_eq_true', Bool.not_eq_false', Bool.and_eq_true, Bool.and_eq_false_iff, beq_iff_eq, bne_iff_ne, beq_eq_false_iff_ne, bne_eq_false_iff_eq, ne_eq, decide_eq_decide] at h55
              refine AJ_skip 22 rfl (by kernel_rfl) (by kernel_rfl) rfl rfl ?_
              refine AJ_skip 23 rfl (by kernel_rfl) (by kernel_rfl) rfl rfl ?_
              refine AJ_skip 24 rfl (by kernel_rfl) (by kernel_rfl) rfl rfl ?_
              refine AJ_skip 25 rfl (by kernel_rfl) (by kernel_rfl) rfl rfl ?_
              refine AJ_y 26 rfl (by kernel_rfl) (by kernel_rfl) rfl rfl (YJ_pickT rfl rfl) ?_
              refine AJ_y 27 rfl (by kernel_rfl) (by kernel_rfl) rfl rfl (YJ_pickT rfl rfl) ?_
              refine AJ_done (by kernel_rfl) ?_
              refine QJ_thenR (by repeat with_reducible first | exact no_round | exact no_begin | apply no_then | apply no_block) ?_
              refine RJ_condT rfl ?_
              refine RJ_reg (by kernel_rfl) ?_
              refine LJ_y rfl rfl (YJ_move rfl) ?_
              first | refine LJ_y rfl rfl (YJ_fieldOwn rfl fld_42_1 rfl) ?_ | refine LJ_y rfl rfl (YJ_fieldAddr rfl fld_42_1) ?_
              refine LJ_store (cs' := #[_, _, _, _]) (μ' := [_, _, _, _, _, _]) 0 rfl rfl rfl rfl tyi_3 rfl (Nat.le_of_ble_eq_true rfl) rfl rfl rfl ?_
              refine LJ_nil ?_
              refine QJ_in_normal ?_
              refine QJ_thenR (by repeat with_reducible first | exact no_round | exact no_begin | apply no_then | apply no_block) ?_
              refine RJ_reg (by kernel_rfl) ?_
              first | refine LJ_y rfl rfl (YJ_bin rfl rfl (iop_add (by omega))) ?_ | refine LJ_y rfl rfl (YJ_bin rfl rfl rfl) ?_
              refine LJ_y rfl rfl (YJ_move rfl) ?_
              refine LJ_nil ?_
              refine QJ_roundF (F := fun (i : Nat × Int) => ⟨[(2, .pointer (some ⟨b1, 0, none⟩)), (3, .pointer (some ⟨b2, 0, none⟩)), (6, .pointer (some ⟨b4, 0, none⟩)), (7, .int .i64 (n : Nat)), (29, .agg #[.int .i64 t.n0, .int .i64 t.n1, .int .i64 t.n2]), (30, .int .i64 (i.1 : Nat))], [cellsR b4 #[.int .i64 3, .int .i64 i.2, .int .i64 0, .int .i64 0] 42], []⟩) (I := fun (i : Nat × Int) => i.1 ≤ 3 ∧ i.2 = ([0, 1, 2].take i.1).foldl (lookStep pts tris (p1, p2) t) iR) (m := fun (i : Nat × Int) => 3 - i.1) (i := (k, out)) ((k + 1, t.n k)) (μd := []) ⟨by omega, by dsimp only; rw [look_three hk3, ← hout]; unfold lookStep; rw [if_pos (by first | exact ⟨h38, h51, .inl h55⟩ | exact ⟨h38, h51, .inr h61⟩)]⟩ (by dsimp only; omega) (And.intro rfl (And.intro rfl (And.intro rfl (And.intro rfl (And.intro rfl (And.intro rfl (trivial))))))) (permI [] rfl) (fun _ h => nomatch h) (fun _ h => h)
            · try simp only [decide_eq_true_eq, decide_eq_false_iff_not, Bool.not_eq_true', Bool.not_eq_false', Bool.and_eq_true, Bool.and_eq_false_iff, beq_iff_eq, bne_iff_ne, beq_eq_false_iff_ne, bne_eq_false_iff_eq, ne_eq, decide_eq_decide] at h55
              refine AJ_y 22 rfl (by kernel_rfl) (by kernel_rfl) rfl rfl (YJ_move rfl) ?_
              first | refine AJ_y 23 rfl (by kernel_rfl) (by kernel_rfl) rfl rfl (YJ_fieldOwn rfl fld_42_1 rfl) ?_ | refine AJ_y 23 rfl (by kernel_rfl) (by kernel_rfl) rfl rfl (YJ_fieldAddr rfl fld_42_1) ?_
              first | refine AJ_y 24 rfl (by kernel_rfl) (by kernel_rfl) rfl rfl (YJ_loadL rfl tyi_3 (by repeat first | exact .head _ | apply List.Mem.tail) rfl) ?_ | refine AJ_y 24 rfl (by kernel_rfl) (by kernel_rfl) rfl rfl (YJ_loadFact rfl tyi_3 (by repeat first | exact .head _ | apply List.Mem.tail) rfl) ?_
              refine AJ_y 25 rfl (by kernel_rfl) (by kernel_rfl) rfl rfl (YJ_bin rfl rfl rfl) ?_
              refine AJ_y 26 rfl (by kernel_rfl) (by kernel_rfl) rfl rfl (YJ_pickF rfl rfl) ?_
              refine AJ_y 27 rfl (by kernel_rfl) (by kernel_rfl) rfl rfl (YJ_pickT rfl rfl) ?_
              refine AJ_done (by kernel_rfl) ?_
              refine QJ_thenR (by repeat with_reducible first | exact no_round | exact no_begin | apply no_then | apply no_block) ?_
              refine RJ_cond rfl (fun h61 => ?_) (fun h61 => ?_)
              · try simp only [decide_eq_true_eq, decide_eq_false_iff_not, Bool.not_eq_true', Bool.not_eq_false', Bool.and_eq_true, Bool.and_eq_false_iff, beq_iff_eq, bne_iff_ne, beq_eq_false_iff_ne, bne_eq_false_iff_eq, ne_eq, decide_eq_decide] at h61
                refine RJ_reg (by kernel_rfl) ?_
                refine LJ_y rfl rfl (YJ_move rfl) ?_
                first | refine LJ_y rfl rfl (YJ_fieldOwn rfl fld_42_1 rfl) ?_ | refine LJ_y rfl rfl (YJ_fieldAddr rfl fld_42_1) ?_
                refine LJ_store (cs' := #[_, _, _, _]) (μ' := [_, _, _, _, _, _]) 0 rfl rfl rfl rfl tyi_3 rfl (Nat.le_of_ble_eq_true rfl) rfl rfl rfl ?_
                refine LJ_nil ?_
                refine QJ_in_normal ?_
                refine QJ_thenR (by repeat with_reducible first | exact no_round | exact no_begin | apply no_then | apply no_block) ?_
                refine RJ_reg (by kernel_rfl) ?_
                first | refine LJ_y rfl rfl (YJ_bin rfl rfl (iop_add (by omega))) ?_ | refine LJ_y rfl rfl (YJ_bin rfl rfl rfl) ?_
                refine LJ_y rfl rfl (YJ_move rfl) ?_
                refine LJ_nil ?_
                refine QJ_roundF (F := fun (i : Nat × Int) => ⟨[(2, .pointer (some ⟨b1, 0, none⟩)), (3, .pointer (some ⟨b2, 0, none⟩)), (6, .pointer (some ⟨b4, 0, none⟩)), (7, .int .i64 (n : Nat)), (29, .agg #[.int .i64 t.n0, .int .i64 t.n1, .int .i64 t.n2]), (30, .int .i64 (i.1 : Nat))], [cellsR b4 #[.int .i64 3, .int .i64 i.2, .int .i64 0, .int .i64 0] 42], []⟩) (I := fun (i : Nat × Int) => i.1 ≤ 3 ∧ i.2 = ([0, 1, 2].take i.1).foldl (lookStep pts tris (p1, p2) t) iR) (m := fun (i : Nat × Int) => 3 - i.1) (i := (k, out)) ((k + 1, t.n k)) (μd := []) ⟨by omega, by dsimp only; rw [look_three hk3, ← hout]; unfold lookStep; rw [if_pos (by first | exact ⟨h38, h51, .inl h55⟩ | exact ⟨h38, h51, .inr h61⟩)]⟩ (by dsimp only; omega) (And.intro rfl (And.intro rfl (And.intro rfl (And.intro rfl (And.intro rfl (And.intro rfl (trivial))))))) (permI [] rfl) (fun _ h => nomatch h) (fun _ h => h)
              · try simp only [decide_eq_true_eq, decide_eq_false_iff_not, Bool.not_eq_true', Bool.not_eq_false', Bool.and_eq_true, Bool.and_eq_false_iff, beq_iff_eq, bne_iff_ne, beq_eq_false_iff_ne, bne_eq_false_iff_eq, ne_eq, decide_eq_decide] at h61
                refine RJ_skip ?_
                refine QJ_in_normal ?_
                refine QJ_thenR (by repeat with_reducible first | exact no_round | exact no_begin | apply no_then | apply no_block) ?_
                refine RJ_reg (by kernel_rfl) ?_
                first | refine LJ_y rfl rfl (YJ_bin rfl rfl (iop_add (by omega))) ?_ | refine LJ_y rfl rfl (YJ_bin rfl rfl rfl) ?_
                refine LJ_y rfl rfl (YJ_move rfl) ?_
                refine LJ_nil ?_
                refine QJ_roundF (F := fun (i : Nat × Int) => ⟨[(2, .pointer (some ⟨b1, 0, none⟩)), (3, .pointer (some ⟨b2, 0, none⟩)), (6, .pointer (some ⟨b4, 0, none⟩)), (7, .int .i64 (n : Nat)), (29, .agg #[.int .i64 t.n0, .int .i64 t.n1, .int .i64 t.n2]), (30, .int .i64 (i.1 : Nat))], [cellsR b4 #[.int .i64 3, .int .i64 i.2, .int .i64 0, .int .i64 0] 42], []⟩) (I := fun (i : Nat × Int) => i.1 ≤ 3 ∧ i.2 = ([0, 1, 2].take i.1).foldl (lookStep pts tris (p1, p2) t) iR) (m := fun (i : Nat × Int) => 3 - i.1) (i := (k, out)) ((k + 1, out)) (μd := []) ⟨by omega, by dsimp only; rw [look_three hk3, ← hout]; unfold lookStep; rw [if_neg (fun q => by first | exact q.1 h38 | exact h51 q.2.1 | (have := q.2.2; omega))]⟩ (by dsimp only; omega) (And.intro rfl (And.intro rfl (And.intro rfl (And.intro rfl (And.intro rfl (And.intro rfl (trivial))))))) (permI [] rfl) (fun _ h => nomatch h) (fun _ h => h)
          · try simp only [decide_eq_true_eq, decide_eq_false_iff_not, Bool.not_eq_true', Bool.not_eq_false', Bool.and_eq_true, Bool.and_eq_false_iff, beq_iff_eq, bne_iff_ne, beq_eq_false_iff_ne, bne_eq_false_iff_eq, ne_eq, decide_eq_decide] at h51
            refine AJ_skip 18 rfl (by kernel_rfl) (by kernel_rfl) rfl rfl ?_
            refine AJ_skip 19 rfl (by kernel_rfl) (by kernel_rfl) rfl rfl ?_
            refine AJ_skip 20 rfl (by kernel_rfl) (by kernel_rfl) rfl rfl ?_
            refine AJ_skip 21 rfl (by kernel_rfl) (by kernel_rfl) rfl rfl ?_
            refine AJ_skip 22 rfl (by kernel_rfl) (by kernel_rfl) rfl rfl ?_
            refine AJ_skip 23 rfl (by kernel_rfl) (by kernel_rfl) rfl rfl ?_
            refine AJ_skip 24 rfl (by kernel_rfl) (by kernel_rfl) rfl rfl ?_
            refine AJ_skip 25 rfl (by kernel_rfl) (by kernel_rfl) rfl rfl ?_
            refine AJ_skip 26 rfl (by kernel_rfl) (by kernel_rfl) rfl rfl ?_
            refine AJ_y 27 rfl (by kernel_rfl) (by kernel_rfl) rfl rfl (YJ_pickF rfl rfl) ?_
            refine AJ_done (by kernel_rfl) ?_
            refine QJ_thenR (by repeat with_reducible first | exact no_round | exact no_begin | apply no_then | apply no_block) ?_
            refine RJ_condF rfl ?_
            refine RJ_skip ?_
            refine QJ_in_normal ?_
            refine QJ_thenR (by repeat with_reducible first | exact no_round | exact no_begin | apply no_then | apply no_block) ?_
            refine RJ_reg (by kernel_rfl) ?_
            first | refine LJ_y rfl rfl (YJ_bin rfl rfl (iop_add (by omega))) ?_ | refine LJ_y rfl rfl (YJ_bin rfl rfl rfl) ?_
            refine LJ_y rfl rfl (YJ_move rfl) ?_
            refine LJ_nil ?_
            refine QJ_roundF (F := fun (i : Nat × Int) => ⟨[(2, .pointer (some ⟨b1, 0, none⟩)), (3, .pointer (some ⟨b2, 0, none⟩)), (6, .pointer (some ⟨b4, 0, none⟩)), (7, .int .i64 (n : Nat)), (29, .agg #[.int .i64 t.n0, .int .i64 t.n1, .int .i64 t.n2]), (30, .int .i64 (i.1 : Nat))], [cellsR b4 #[.int .i64 3, .int .i64 i.2, .int .i64 0, .int .i64 0] 42], []⟩) (I := fun (i : Nat × Int) => i.1 ≤ 3 ∧ i.2 = ([0, 1, 2].take i.1).foldl (lookStep pts tris (p1, p2) t) iR) (m := fun (i : Nat × Int) => 3 - i.1) (i := (k, out)) ((k + 1, out)) (μd := []) ⟨by omega, by dsimp only; rw [look_three hk3, ← hout]; unfold lookStep; rw [if_neg (fun q => by first | exact q.1 h38 | exact h51 q.2.1 | (have := q.2.2; omega))]⟩ (by dsimp only; omega) (And.intro rfl (And.intro rfl (And.intro rfl (And.intro rfl (And.intro rfl (And.intro rfl (trivial))))))) (permI [] rfl) (fun _ h => nomatch h) (fun _ h => h)
        · try simp only [decide_eq_true_eq, decide_eq_false_iff_not, Bool.not_eq_true', Bool.not_eq_false', Bool.and_eq_true, Bool.and_eq_false_iff, beq_iff_eq, bne_iff_ne, beq_eq_false_iff_ne, bne_eq_false_iff_eq, ne_eq, decide_eq_decide] at h38
          refine AJ_skip 5 rfl (by kernel_rfl) (by kernel_rfl) rfl rfl ?_
          refine AJ_skip 6 rfl (by kernel_rfl) (by kernel_rfl) rfl rfl ?_
          refine AJ_skip 7 rfl (by kernel_rfl) (by kernel_rfl) rfl rfl ?_
          refine AJ_skip 8 rfl (by kernel_rfl) (by kernel_rfl) rfl rfl ?_
          refine AJ_skip 9 rfl (by kernel_rfl) (by kernel_rfl) rfl rfl ?_
          refine AJ_skip 10 rfl (by kernel_rfl) (by kernel_rfl) rfl rfl ?_
          refine AJ_skip 11 rfl (by kernel_rfl) (by kernel_rfl) rfl rfl ?_
          refine AJ_skip 12 rfl (by kernel_rfl) (by kernel_rfl) rfl rfl ?_
          refine AJ_skip 13 rfl (by kernel_rfl) (by kernel_rfl) rfl rfl ?_
          refine AJ_skip 14 rfl (by kernel_rfl) (by kernel_rfl) rfl rfl ?_
          refine AJ_skip 15 rfl (by kernel_rfl) (by kernel_rfl) rfl rfl ?_
          refine AJ_y 16 rfl (by kernel_rfl) (by kernel_rfl) rfl rfl (YJ_pickF rfl rfl) ?_
          refine AJ_y 17 rfl (by kernel_rfl) (by kernel_rfl) rfl rfl (YJ_move rfl) ?_
          refine AJ_skip 18 rfl (by kernel_rfl) (by kernel_rfl) rfl rfl ?_
          refine AJ_skip 19 rfl (by kernel_rfl) (by kernel_rfl) rfl rfl ?_
          refine AJ_skip 20 rfl (by kernel_rfl) (by kernel_rfl) rfl rfl ?_
          refine AJ_skip 21 rfl (by kernel_rfl) (by kernel_rfl) rfl rfl ?_
          refine AJ_skip 22 rfl (by kernel_rfl) (by kernel_rfl) rfl rfl ?_
          refine AJ_skip 23 rfl (by kernel_rfl) (by kernel_rfl) rfl rfl ?_
          refine AJ_skip 24 rfl (by kernel_rfl) (by kernel_rfl) rfl rfl ?_
          refine AJ_skip 25 rfl (by kernel_rfl) (by kernel_rfl) rfl rfl ?_
          refine AJ_skip 26 rfl (by kernel_rfl) (by kernel_rfl) rfl rfl ?_
          refine AJ_y 27 rfl (by kernel_rfl) (by kernel_rfl) rfl rfl (YJ_pickF rfl rfl) ?_
          refine AJ_done (by kernel_rfl) ?_
          refine QJ_thenR (by repeat with_reducible first | exact no_round | exact no_begin | apply no_then | apply no_block) ?_
          refine RJ_condF rfl ?_
          refine RJ_skip ?_
          refine QJ_in_normal ?_
          refine QJ_thenR (by repeat with_reducible first | exact no_round | exact no_begin | apply no_then | apply no_block) ?_
          refine RJ_reg (by kernel_rfl) ?_
          first | refine LJ_y rfl rfl (YJ_bin rfl rfl (iop_add (by omega))) ?_ | refine LJ_y rfl rfl (YJ_bin rfl rfl rfl) ?_
          refine LJ_y rfl rfl (YJ_move rfl) ?_
          refine LJ_nil ?_
          refine QJ_roundF (F := fun (i : Nat × Int) => ⟨[(2, .pointer (some ⟨b1, 0, none⟩)), (3, .pointer (some ⟨b2, 0, none⟩)), (6, .pointer (some ⟨b4, 0, none⟩)), (7, .int .i64 (n : Nat)), (29, .agg #[.int .i64 t.n0, .int .i64 t.n1, .int .i64 t.n2]), (30, .int .i64 (i.1 : Nat))], [cellsR b4 #[.int .i64 3, .int .i64 i.2, .int .i64 0, .int .i64 0] 42], []⟩) (I := fun (i : Nat × Int) => i.1 ≤ 3 ∧ i.2 = ([0, 1, 2].take i.1).foldl (lookStep pts tris (p1, p2) t) iR) (m := fun (i : Nat × Int) => 3 - i.1) (i := (k, out)) ((k + 1, out)) (μd := []) ⟨by omega, by dsimp only; rw [look_three hk3, ← hout]; unfold lookStep; rw [if_neg (fun q => by first | exact q.1 h38 | exact h51 q.2.1 | (have := q.2.2; omega))]⟩ (by dsimp only; omega) (And.intro rfl (And.intro rfl (And.intro rfl (And.intro rfl (And.intro rfl (And.intro rfl (trivial))))))) (permI [] rfl) (fun _ h => nomatch h) (fun _ h => h)
      · try simp only [decide_eq_true_eq, decide_eq_false_iff_not, Bool.not_eq_true', Bool.not_eq_false', Bool.and_eq_true, Bool.and_eq_false_iff, beq_iff_eq, bne_iff_ne, beq_eq_false_iff_ne, bne_eq_false_iff_eq, ne_eq, decide_eq_decide] at h31
        refine RJ_exit ?_
        refine QJ_then_exit ?_
        refine QJ_then_exit ?_
        refine QJ_in_exit ?_
        refine QJ_in_normal ?_
        refine QJ_again (μ1 := [_, _, _, _]) (μ2 := [_]) (φ1 := []) (permI [1, 2, 0, 1, 1] rfl) (fun _ h => nomatch h) ?_
        exact .inl ⟨rfl, out, (by
          have hI3 : iR = pre.foldl (lookTri pts tris (p1, p2)) (-1) := hI
          show out = (pre ++ [(n, t)]).foldl (lookTri pts tris (p1, p2)) (-1)
          rw [List.foldl_append, ← hI3]
          show out = lookTri pts tris (p1, p2) iR (n, t)
          rw [hout, List.take_of_length_le (by simp; omega)]
          rfl), rfl, rfl⟩
    · intro D1 iR hI
      show QJ _ _ _ _ (defR D1 :: _ :: _ :: _ :: _) _
      refine QJ_in_normal ?_
      refine QJ_then ?_
      refine CJ_seq ?_
      refine CJ_reg ?_
      first | refine LJ_y rfl rfl (YJ_loadN (vs := [_, _, _, _]) rfl tyi_42 (by repeat first | exact .head _ | apply List.Mem.tail) rfl rfl) ?_ | refine LJ_y rfl rfl (YJ_loadFactN (vs := [_, _, _, _]) rfl tyi_42 (by repeat first | exact .head _ | apply List.Mem.tail) rfl rfl) ?_
      refine LJ_store (cs' := #[_, _, _, _]) (μ' := [_, _, _, _, _, _]) 5 rfl rfl rfl rfl tyi_42 rfl (Nat.le_of_ble_eq_true rfl) rfl rfl rfl ?_
      refine LJ_nil ?_
      refine QJ_then ?_
      refine CJ_ret ?_
      refine QJ_finM (.inl rfl) [D1, D0] rfl (μ' := []) (μr := [_, _, _, _]) (φ' := []) (res_cell (vs := [_, _, _, _]) rfl rfl (by repeat first | exact .head _ | apply List.Mem.tail) tyi_42 rfl) (permI [0, 3] rfl) (fun _ h => nomatch h) ?_
      have hI2 : iR = (reals tris).foldl (lookTri pts tris (p1, p2)) (-1) := hI
      have e : look pts tris (p1, p2) = (3, iR, 0, 0) := (look_none hno).trans (by rw [hI2])
      exact ⟨(congrArg plV e).symm, rfl, rfl⟩
    · exact fun _ _ _ _ _ h => h.elim
  · intro D0 cR pre iR hpre hI
    obtain ⟨rfl, pre', rfl, hI1, hI2⟩ := hI
    show CJ _ _ _ _ (defR D0 :: _ :: _ :: _ :: _) _
    refine CJ_ret ?_
    refine QJ_in_ret ?_
    refine QJ_then_ret ?_
    refine QJ_finM (.inl rfl) [D0] rfl (μ' := []) (μr := [_, _, _]) (φ' := []) (res_cell (vs := [_, _, _, _]) rfl rfl (by repeat first | exact .head _ | apply List.Mem.tail) tyi_42 rfl) (permI [] rfl) (fun _ h => nomatch h) ?_
    exact ⟨(congrArg plV (look_found hI1 hI2 hpre)).symm, rfl, rfl⟩

end Go.Proofs.Ytbanlhlggkdanaa
