/- What the law CavityAreas needs. Part 3: the texts of G3 G4 Grw H1 H2 H3 H4 Map J1 J2 J3. -/
import Derived.Test.YtbanlhlggkdanaaKb
import Derived.ChangeKeysEq
import Derived.Maps.RangeRun
import Derived.WideKeyRuns
set_option linter.unusedSimpArgs false
set_option linter.unusedVariables false
namespace Go.Proofs.Ytbanlhlggkdanaa
open Go.RowKit
theorem tyi_28 : tyi Try.prog 28 = some (false, 1) := by kernel_rfl
theorem ent_19 : Enter Try.prog 19 = true := by kernel_rfl
theorem ent_50 : Enter Try.prog 50 = true := by kernel_rfl
def realsF : Nat → List Tr → List (Nat × Tr)
 | _, [] => []
 | k, t :: r => if t.real then (k, t) :: realsF (k + 1) r else realsF (k + 1) r
abbrev reals (tris : List Tr) : List (Nat × Tr) := realsF 0 tris
theorem realsF_app : ∀ (a b : List Tr) (k : Nat), realsF k (a ++ b) = realsF k a ++ realsF (k + a.length) b
 | [], b, k => by simp [realsF]
 | t :: a, b, k => by
  simp only [List.cons_append, realsF, List.length_cons]
  rw [realsF_app a b (k + 1), show k + 1 + a.length = k + (a.length + 1) by omega]
  split <;> simp
theorem reals_step {tris : List Tr} {k : Nat} {t : Tr} (ht : tris[k]? = some t) : reals (tris.take (k + 1)) = reals (tris.take k) ++ if t.real then [(k, t)] else [] := by
 have hk : k < tris.length := (List.getElem?_eq_some_iff.1 ht).1
 have e : tris.take (k + 1) = tris.take k ++ [t] := by rw [List.take_add_one, ht]; rfl
 have hl : (tris.take k).length = k := by rw [List.length_take]; omega
 rw [reals, reals, e, realsF_app, hl, Nat.zero_add]
 simp [realsF]
theorem reals_pre (tris : List Tr) (k : Nat) : reals (tris.take k) <+: reals tris := by
 have := realsF_app (tris.take k) (tris.drop k) 0
 rw [List.take_append_drop] at this
 exact ⟨_, this.symm⟩
theorem realsF_mem : ∀ {tris : List Tr} {b k : Nat} {t : Tr}, (k, t) ∈ realsF b tris ↔ b ≤ k ∧ tris[k - b]? = some t ∧ t.real
 | [], b, k, t => by simp [realsF]
 | u :: r, b, k, t => by
  have ih := realsF_mem (tris := r) (b := b + 1) (k := k) (t := t)
  unfold realsF
  split
  ·rename_i hu
   rw [List.mem_cons, ih]
   constructor
   ·rintro (h | ⟨h1, h2, h3⟩)
    ·simp only [Prod.mk.injEq] at h
     obtain ⟨rfl, rfl⟩ := h
     simp [hu]
    ·refine ⟨by omega, ?_, h3⟩
     rw [show k - b = (k - (b + 1)) + 1 by omega]
     simpa using h2
   ·rintro ⟨h1, h2, h3⟩
    by_cases e : k = b
    ·subst e
     simp at h2
     subst h2
     exact .inl rfl
    ·refine .inr ⟨by omega, ?_, h3⟩
     rw [show k - b = (k - (b + 1)) + 1 by omega] at h2
     simpa using h2
  ·rename_i hu
   rw [ih]
   constructor
   ·rintro ⟨h1, h2, h3⟩
    refine ⟨by omega, ?_, h3⟩
    rw [show k - b = (k - (b + 1)) + 1 by omega]
    simpa using h2
   ·rintro ⟨h1, h2, h3⟩
    by_cases e : k = b
    ·subst e
     simp at h2
     subst h2
     exact absurd h3 hu
    ·refine ⟨by omega, ?_, h3⟩
     rw [show k - b = (k - (b + 1)) + 1 by omega] at h2
     simpa using h2
theorem reals_mem {tris : List Tr} {k : Nat} {t : Tr} : (k, t) ∈ reals tris ↔ tris[k]? = some t ∧ t.real := by
 rw [reals, realsF_mem]
 simp
def encT (x : Nat × Tr) : List Value := [.int .i64 x.1, .agg x.2.cells.toArray]
def allFs (b B : Nat) (h : Mh) (pts : List (Int × Int)) (tris : List Tr) : List Res := sliceR 1 (some ⟨b, 0, none⟩) 1 [.pointer (some ⟨B, 0, none⟩)] :: meshFs B h pts tris
theorem mem_sw {a b c : List Res} : ∀ r, r ∈ a ++ (b ++ c) → r ∈ b ++ (a ++ c) := fun r h => by
 simp only [List.mem_append] at *
 rcases h with h | h | h
 ·exact .inr (.inl h)
 ·exact .inl h
 ·exact .inr (.inr h)
theorem mem_sub3 {a b c d : List Res} : ∀ r, r ∈ a ++ (b ++ c) → r ∈ b ++ (a ++ (d ++ c)) := fun r h => by
 simp only [List.mem_append] at *
 rcases h with h | h | h
 ·exact .inr (.inl h)
 ·exact .inl h
 ·exact .inr (.inr (.inr h))
set_option maxRecDepth 100000 in
set_option maxHeartbeats 1000000 in
theorem all_c {B : Nat} : Tri Try.prog 19 [.pointer (some ⟨B, 0, none⟩)] [] [] (RetX (fun _ : Nat => True) (fun b => .func (.func 50) #[] #[.pointer (some ⟨b, 0, none⟩)]) (fun _ => []) (fun b => [sliceR 1 (some ⟨b, 0, none⟩) 1 [.pointer (some ⟨B, 0, none⟩)]])) := by
 refine Tri_of (N := 4) Try.func19 rfl ent_19 rfl rfl ?_
 intro w0 S0 T0
 show CJ _ _ _ [(0, _)] _ _
 refine CJ_seq ?_
 refine CJ_reg ?_
 refine LJ_box (cs := #[_]) rfl rfl rfl rfl ?_
 intro b1
 refine LJ_freeze ?_
 refine LJ_addF (r' := sliceR 1 (some ⟨b1, 0, none⟩) 1 [.pointer (some ⟨B, 0, none⟩)]) (.head _) (fun w S h => cellsR_slice (n := 1) rfl w S h) ?_
 refine LJ_y rfl rfl (YJ_assign rfl) ?_
 refine LJ_nil ?_
 refine QJ_then ?_
 refine CJ_seq ?_
 refine CJ_reg ?_
 refine LJ_y rfl rfl (YJ_makeFunc (vs := []) (us := [_]) rfl rfl) ?_
 refine LJ_y rfl rfl (YJ_assign rfl) ?_
 refine LJ_nil ?_
 refine QJ_then ?_
 refine CJ_ret ?_
 refine QJ_fin (.inl rfl) (μ' := []) (μr := _) (φ' := [_]) (res_tmp rfl rfl) (List.Perm.refl _) (fun r h => by rw [List.mem_singleton] at h; subst h; exact .head _) ?_
 exact ⟨b1, trivial, rfl, rfl, rfl⟩
set_option maxRecDepth 100000 in
set_option maxHeartbeats 1000000 in
theorem all1_c {b B : Nat} {h : Mh} {pts : List (Int × Int)} {tris : List Tr} {l : Nat} {J Jx : List (Nat × Tr) → List Res → List Res → Prop} {φx : List Res} (hlen : tris.length ≤ 1073741824)
  (hy : ∀ pre x μ φ, (pre ++ [x]) <+: reals tris → J pre μ φ → YTri Try.prog l (encT x) μ (φ ++ (allFs b B h pts tris ++ φx)) (fun v μ' φ' => (v = .bool true ∧ J (pre ++ [x]) μ' φ') ∨ (v = .bool false ∧ Jx (pre ++ [x]) μ' φ')))
  {μ φ : List Res} (hJ : J [] μ φ) : Tri Try.prog 50 [.func (.yield l) #[] #[], .pointer (some ⟨b, 0, none⟩)] μ (φ ++ (allFs b B h pts tris ++ φx)) (fun _ μ' φ' => J (reals tris) μ' φ' ∨ ∃ pre, pre <+: reals tris ∧ Jx pre μ' φ') := by
 refine Tri_of (N := 26) Try.func50 rfl ent_50 rfl rfl ?_
 intro w0 S0 T0
 show CJ _ _ _ [(0, _), (1, _)] _ _
 refine CJ_weak (σ' := [(0, _), (1, _)]) (μ' := μ) (μr := []) (φ' := allFs b B h pts tris ++ (φ ++ φx)) ⟨rfl, rfl, trivial⟩ (by simp) (fun r h => mem_sw r h) ?_
 refine CJ_seq ?_
 refine CJ_reg ?_
 refine LJ_y rfl rfl (YJ_loadFactP (A := some ⟨b, 0, none⟩) (j := 0) rfl rfl tyi_28 m0 rfl) ?_
 refine LJ_y rfl rfl (YJ_nilCheck rfl) ?_
 refine LJ_y rfl rfl (YJ_fieldOwn rfl fld_57_1 rfl) ?_
 refine LJ_y rfl rfl (YJ_loadFactP (A := some ⟨B, 0, none⟩) (j := 1) rfl rfl tyi_54 m1 rfl) ?_
 refine LJ_y rfl rfl (YJ_len rfl ulen_54 rfl) ?_
 refine LJ_y rfl rfl (YJ_move rfl) ?_
 refine LJ_nil ?_
 refine QJ_then ?_
 refine CJ_block ?_
 refine CJ_loop (F := fun (i : Nat × List Res × List Res) => ⟨[(0, .func (.yield l) #[] #[]), (1, .pointer (some ⟨b, 0, none⟩)), (8, .slice h.T tris.length h.ct), (9, .int .i64 tris.length), (10, .int .i64 (i.1 : Nat))], i.2.1, (allFs b B h pts tris ++ (i.2.2 ++ φx))⟩) (I := fun (i : Nat × List Res × List Res) => i.1 ≤ tris.length ∧ J (reals (tris.take i.1)) i.2.1 i.2.2) (m := fun (i : Nat × List Res × List Res) => tris.length - i.1) (0, μ, φ) (μr := []) ⟨Nat.zero_le _, hJ⟩ (And.intro rfl (And.intro rfl (And.intro rfl (And.intro rfl (And.intro rfl (trivial)))))) ((by simp)) (fun _ h => h) ?_
 rintro ⟨k, μ1, φ1⟩ ⟨hk, hJ⟩
 try dsimp only at hk
 try dsimp only at hJ
 show CJ _ _ _ [(0, .func (.yield l) #[] #[]), (1, .pointer (some ⟨b, 0, none⟩)), (8, .slice h.T tris.length h.ct), (9, .int .i64 tris.length), (10, .int .i64 (k : Nat))] μ1 (allFs b B h pts tris ++ (φ1 ++ φx))
 refine CJ_seq ?_
 refine CJ_reg ?_
 refine LJ_y rfl rfl (YJ_bin rfl rfl rfl) ?_
 refine LJ_nil ?_
 refine QJ_then ?_
 refine CJ_seq ?_
 refine CJ_cond rfl (fun h11 => ?_) (fun h11 => ?_)
 ·simp only [decide_eq_true_eq] at h11
  obtain ⟨t, ht⟩ := get_of_lt (tris := tris) (i := (k : Int)) (by omega) (by omega)
  have htk : tris[k]? = some t := by simpa using ht
  have hst := reals_step htk
  have hri := real_iff (by omega) ht
  refine CJ_skip ?_
  refine QJ_then ?_
  refine CJ_seq ?_
  refine CJ_block ?_
  refine CJ_seq ?_
  refine CJ_reg ?_
  refine LJ_y rfl rfl (YJ_move rfl) ?_
  refine LJ_y rfl rfl (YJ_ixFact rfl rfl elt_54 m3 (by decide) (by omega) (by omega) (by omega)) ?_
  refine LJ_y rfl rfl (YJ_loadFactN (vs := [.int .i64 t.v0, .int .i64 t.v1, .int .i64 t.v2, .int .i64 t.n0, .int .i64 t.n1, .int .i64 t.n2, .bool t.f0, .bool t.f1, .bool t.f2]) (xs := trCells tris) rfl tyi_37 m3 (trCells_row ht) rfl) ?_
  refine LJ_alloc (cs := #[_, _, _, _, _, _, _, _, _]) rfl rfl zer_37 rfl ?_
  intro b1
  refine LJ_y rfl rfl (YJ_assign rfl) ?_
  refine LJ_store (cs' := #[_, _, _, _, _, _, _, _, _]) (μ' := (_ :: _)) 0 rfl rfl rfl rfl tyi_37 rfl (Nat.le_of_ble_eq_true rfl) rfl (wr_all rfl) rfl ?_
  refine LJ_nil ?_
  refine QJ_then ?_
  refine CJ_seq ?_
  refine CJ_regY ?_
  refine LY_y rfl rfl (YJ_loadFactP (A := some ⟨b, 0, none⟩) (j := 0) rfl rfl tyi_28 m0 rfl) ?_
  refine LY_y rfl rfl (YJ_move rfl) ?_
  refine LY_call0 rfl rfl rfl rfl rfl (real_c (h := h) (pts := pts) (tris := tris)) (fun r h => .tail _ (List.mem_append_left _ h)) ?_
  refine LY_y rfl rfl (YJ_move rfl) ?_
  refine LY_boolC (fun h18 => ?_) (fun h18 => ?_)
  ·simp only [decide_eq_true_eq] at h18
   have hstep : reals (tris.take (k + 1)) = reals (tris.take k) ++ [(k, t)] := by rw [hst, if_pos (hri.1 h18)]
   refine LY_y rfl rfl (YJ_move rfl) ?_
   refine LY_y rfl rfl (YJ_move rfl) ?_
   refine LY_y rfl rfl (YJ_loadN (vs := [_, _, _, _, _, _, _, _, _]) rfl tyi_37 m0 rfl rfl) ?_
   refine LY_yield rfl rfl rfl rfl (hy _ (k, t) μ1 φ1 (by rw [← hstep]; exact reals_pre tris (k + 1)) hJ) (μr := [_]) (List.perm_append_singleton _ _).symm (fun r h => mem_sw r h) ?_
   intro v μ2 φ2 hpost
   obtain ⟨c, rfl, hc⟩ : ∃ c : Bool, v = .bool c ∧ ((c = true ∧ J (reals (tris.take k) ++ [(k, t)]) μ2 φ2) ∨ (c = false ∧ Jx (reals (tris.take k) ++ [(k, t)]) μ2 φ2)) := by
    rcases hpost with ⟨rfl, h⟩ | ⟨rfl, h⟩
    ·exact ⟨true, rfl, .inl ⟨rfl, h⟩⟩
    ·exact ⟨false, rfl, .inr ⟨rfl, h⟩⟩
   refine LY_boolC (fun h22 => ?_) (fun h22 => ?_)
   ·skip
    replace hc : J (reals (tris.take (k + 1))) μ2 φ2 := by
     rw [hstep]
     rcases hc with ⟨_, q⟩ | ⟨q, _⟩
     ·exact q
     ·rw [h22] at q; cases q
    refine LY_y rfl rfl (YJ_not rfl) ?_
    refine LY_y rfl rfl (YJ_pickT rfl rfl) ?_
    refine LY_nil ?_
    refine QJ_then ?_
    refine CJ_condF rfl ?_
    refine CJ_skip ?_
    refine QJ_in_normal ?_
    refine QJ_then ?_
    refine CJ_reg ?_
    refine LJ_y rfl rfl (YJ_bin rfl rfl (iop_add (by omega))) ?_
    refine LJ_y rfl rfl (YJ_move rfl) ?_
    refine LJ_nil ?_
    refine QJ_round (F := fun (i : Nat × List Res × List Res) => ⟨[(0, .func (.yield l) #[] #[]), (1, .pointer (some ⟨b, 0, none⟩)), (8, .slice h.T tris.length h.ct), (9, .int .i64 tris.length), (10, .int .i64 (i.1 : Nat))], i.2.1, (allFs b B h pts tris ++ (i.2.2 ++ φx))⟩) (I := fun (i : Nat × List Res × List Res) => i.1 ≤ tris.length ∧ J (reals (tris.take i.1)) i.2.1 i.2.2) (m := fun (i : Nat × List Res × List Res) => tris.length - i.1) (i := (k, μ1, φ1)) ((k + 1, μ2, φ2)) (μr := [_]) ⟨by omega, hc⟩ (by dsimp only; omega) (And.intro rfl (And.intro rfl (And.intro rfl (And.intro rfl (And.intro rfl (trivial)))))) (List.Perm.refl _) (fun r h => mem_sub3 r h)
   ·skip
    replace hc : Jx (reals (tris.take (k + 1))) μ2 φ2 := by
     rw [hstep]
     rcases hc with ⟨q, _⟩ | ⟨_, q⟩
     ·rw [h22] at q; cases q
     ·exact q
    refine LY_y rfl rfl (YJ_not rfl) ?_
    refine LY_y rfl rfl (YJ_pickT rfl rfl) ?_
    refine LY_nil ?_
    refine QJ_then ?_
    refine CJ_condT rfl ?_
    refine CJ_ret ?_
    refine QJ_in_ret ?_
    refine QJ_then_ret ?_
    refine QJ_then_ret ?_
    refine QJ_in_ret ?_
    exact QJ_fin (.inl rfl) (μ' := μ2) (μr := [_]) (φ' := φ2) (res_none rfl) (List.Perm.refl _) (fun r h => List.mem_append_left _ h) (.inr ⟨_, reals_pre tris (k + 1), hc⟩)
  ·simp only [decide_eq_false_iff_not] at h18
   have hstep : reals (tris.take (k + 1)) = reals (tris.take k) := by rw [hst, if_neg (fun q => h18 (hri.2 q)), List.append_nil]
   refine LY_skip rfl rfl ?_
   refine LY_skip rfl rfl ?_
   refine LY_skip rfl rfl ?_
   refine LY_skip rfl rfl ?_
   refine LY_skip rfl rfl ?_
   refine LY_y rfl rfl (YJ_pickF rfl rfl) ?_
   refine LY_nil ?_
   refine QJ_then ?_
   refine CJ_condF rfl ?_
   refine CJ_skip ?_
   refine QJ_in_normal ?_
   refine QJ_then ?_
   refine CJ_reg ?_
   refine LJ_y rfl rfl (YJ_bin rfl rfl (iop_add (by omega))) ?_
   refine LJ_y rfl rfl (YJ_move rfl) ?_
   refine LJ_nil ?_
   refine QJ_round (F := fun (i : Nat × List Res × List Res) => ⟨[(0, .func (.yield l) #[] #[]), (1, .pointer (some ⟨b, 0, none⟩)), (8, .slice h.T tris.length h.ct), (9, .int .i64 tris.length), (10, .int .i64 (i.1 : Nat))], i.2.1, (allFs b B h pts tris ++ (i.2.2 ++ φx))⟩) (I := fun (i : Nat × List Res × List Res) => i.1 ≤ tris.length ∧ J (reals (tris.take i.1)) i.2.1 i.2.2) (m := fun (i : Nat × List Res × List Res) => tris.length - i.1) (i := (k, μ1, φ1)) ((k + 1, μ1, φ1)) (μr := [_]) ⟨by omega, by show J (reals (tris.take (k + 1))) _ _; rw [hstep]; exact hJ⟩ (by dsimp only; omega) (And.intro rfl (And.intro rfl (And.intro rfl (And.intro rfl (And.intro rfl (trivial)))))) ((List.perm_append_singleton _ _).symm) (fun _ h => h)
 ·simp only [decide_eq_false_iff_not] at h11
  refine CJ_exit ?_
  refine QJ_then_exit ?_
  refine QJ_then_exit ?_
  refine QJ_in_exit ?_
  exact QJ_fin (.inr rfl) (μ' := μ1) (μr := []) (φ' := φ1) (res_none rfl) (by simp) (fun r h => List.mem_append_right _ (List.mem_append_left _ h)) (.inl (by rw [List.take_of_length_le (by omega)] at hJ; exact hJ))
theorem all_it {b B : Nat} {h : Mh} {pts : List (Int × Int)} {tris : List Tr} (hlen : tris.length ≤ 1073741824) : ITri Try.prog 50 [.pointer (some ⟨b, 0, none⟩)] encT (reals tris) (allFs b B h pts tris) :=
 ⟨by kernel_rfl, fun _ _ _ _ hy _ _ hJ => all1_c hlen hy hJ⟩
end Go.Proofs.Ytbanlhlggkdanaa
namespace Go.Proofs.Ytbanlhlggkdanaa
open Go.RowKit
theorem ent_23 : Enter Try.prog 23 = true := by kernel_rfl
theorem fld_37_1 : fld Try.prog 37 1 = some 3 := by kernel_rfl
theorem fld_42_1 : fld Try.prog 42 1 = some 1 := by kernel_rfl
theorem all_sub {b B : Nat} {h : Mh} {pts : List (Int × Int)} {tris : List Tr} {φ : List Res} (hm : ∀ r, r ∈ meshFs B h pts tris → r ∈ φ) : ∀ r, r ∈ allFs b B h pts tris → r ∈ [sliceR 1 (some ⟨b, 0, none⟩) 1 [.pointer (some ⟨B, 0, none⟩)]] ++ φ := fun r hr => by
 rcases List.mem_cons.1 hr with rfl | hr
 ·exact .head _
 ·exact .tail _ (hm r hr)
def lookStep (pts : List (Int × Int)) (tris : List Tr) (p : Int × Int) (t : Tr) (out : Int) (k : Nat) : Int :=
 if ¬ isReal tris (t.n k) ∧ bey pts t k p ∧ (out < 0 ∨ t.n k < out) then t.n k else out
def lookTri (pts : List (Int × Int)) (tris : List Tr) (p : Int × Int) (out : Int) (x : Nat × Tr) : Int := [0, 1, 2].foldl (lookStep pts tris p x.2) out
def look (pts : List (Int × Int)) (tris : List Tr) (p : Int × Int) : Pl :=
 match (reals tris).find? (fun x => decide (hld pts x.2 p)) with
 | some x => place pts x.2 x.1 p
 | none => (3, (reals tris).foldl (lookTri pts tris p) (-1), 0, 0)
theorem find_none {α : Type} {l : List α} {f : α → Prop} [DecidablePred f] (h : ∀ x, x ∈ l → ¬ f x) : l.find? (fun x => decide (f x)) = none := by
 rw [List.find?_eq_none]
 intro x hx
 simpa using h x hx
theorem find_at {α : Type} {l pre : List α} {f : α → Prop} [DecidablePred f] {x : α} (h : ∀ y, y ∈ pre → ¬ f y) (hx : f x) (hp : pre ++ [x] <+: l) : l.find? (fun x => decide (f x)) = some x := by
 obtain ⟨r, rfl⟩ := hp
 rw [List.append_assoc, List.find?_append, find_none h]
 simp [hx]
theorem look_found {pts : List (Int × Int)} {tris : List Tr} {p : Int × Int} {pre : List (Nat × Tr)} {x : Nat × Tr} (h : ∀ y, y ∈ pre → ¬ hld pts y.2 p) (hx : hld pts x.2 p) (hp : pre ++ [x] <+: reals tris) : look pts tris p = place pts x.2 x.1 p := by
 unfold look
 have e := find_at (l := reals tris) (f := fun (x : Nat × Tr) => hld pts x.2 p) h hx hp
 rw [e]
theorem look_none {pts : List (Int × Int)} {tris : List Tr} {p : Int × Int} (h : ∀ y, y ∈ reals tris → ¬ hld pts y.2 p) : look pts tris p = (3, (reals tris).foldl (lookTri pts tris p) (-1), 0, 0) := by
 unfold look
 have e := find_none (l := reals tris) (f := fun (x : Nat × Tr) => hld pts x.2 p) h
 rw [e]
theorem beyond_c {B : Nat} {h : Mh} {pts : List (Int × Int)} {tris : List Tr} {t : Tr} {p1 p2 : Int} {k : Nat} (hk : k < 3) (hP : ∀ j, j < pts.length → P2 (pts.getD j (0, 0)).1 (pts.getD j (0, 0)).2) (hv : t.ok pts.length) (hp : P2 p1 p2) :
  Tri Try.prog 53 [.pointer (some ⟨B, 0, none⟩), .agg t.cells.toArray, .int .i64 k, ptv p1 p2] [] (meshFs B h pts tris) (Ret0 (.bool (decide (bey pts t k (p1, p2))))) := by
 obtain ⟨v0, v1, v2⟩ := hv
 match k, hk with
 | 0, _ => exact beyond0_c hP v1 v2 hp
 | 1, _ => exact beyond1_c hP v2 v0 hp
 | 2, _ => exact beyond2_c hP v0 v1 hp
def okTris (pts : List (Int × Int)) (tris : List Tr) : Prop := ∀ t, t ∈ tris → t.real → t.ok pts.length
theorem okAt {pts : List (Int × Int)} {tris : List Tr} (h : okTris pts tris) {pre : List (Nat × Tr)} {n : Nat} {t : Tr} (hp : pre ++ [(n, t)] <+: reals tris) : tris[n]? = some t ∧ t.real ∧ t.ok pts.length := by
 have hm : (n, t) ∈ reals tris := hp.subset (by simp)
 have := reals_mem.1 hm
 exact ⟨this.1, this.2, h t (List.mem_of_getElem? this.1) this.2⟩
theorem n_get {t : Tr} {k : Nat} (hk : k < 3) : lget ([.int .i64 t.n0, .int .i64 t.n1, .int .i64 t.n2] : List Value) (((k : Nat) : Int).toNat * 1) = some (.int .i64 (t.n k)) := by
 match k, hk with
 | 0, _ => rfl
 | 1, _ => rfl
 | 2, _ => rfl
theorem look_three {pts : List (Int × Int)} {tris : List Tr} {p : Int × Int} {t : Tr} {out : Int} {k : Nat} (hk : k < 3) : ([0, 1, 2].take (k + 1)).foldl (lookStep pts tris p t) out = lookStep pts tris p t (([0, 1, 2].take k).foldl (lookStep pts tris p t) out) k := by
 match k, hk with
 | 0, _ => rfl
 | 1, _ => rfl
 | 2, _ => rfl
theorem cast_idx {tris : List Tr} {n : Nat} {t : Tr} (h : tris[n]? = some t) : tris[(n : Int).toNat]? = some t := by simpa using h
set_option maxRecDepth 100000 in
set_option maxHeartbeats 4000000 in
theorem look_c {B : Nat} {h : Mh} {pts : List (Int × Int)} {tris : List Tr} {p1 p2 : Int} (hP : ∀ j, j < pts.length → P2 (pts.getD j (0, 0)).1 (pts.getD j (0, 0)).2) (hT : okTris pts tris) (hlen : tris.length ≤ 1073741824) (hp : P2 p1 p2) : Tri Try.prog 23 [.pointer (some ⟨B, 0, none⟩), ptv p1 p2] [] (meshFs B h pts tris) (Ret0 (plV (look pts tris (p1, p2)))) := by
 refine Tri_ofM (N := 66) Try.func23 rfl ent_23 rfl rfl ?_
 intro w0 S0 T0
 show CJ _ _ _ [(0, _), (1, _)] _ _
 refine CJ_seq ?_
 refine CJ_reg ?_
 refine LJ_box (cs := #[_]) rfl rfl rfl rfl ?_
 intro b1
 refine LJ_box (cs := #[_, _]) rfl rfl rfl rfl ?_
 intro b2
 refine LJ_alloc (cs := #[_, _, _, _]) rfl rfl zer_42 rfl ?_
 intro b3
 refine LJ_nil ?_
 refine QJ_then ?_
 refine CJ_seq ?_
 refine CJ_seq ?_
 refine CJ_reg ?_
 refine LJ_y rfl rfl (YJ_loadL rfl tyi_28 m2 rfl) ?_
 refine LJ_callX rfl rfl rfl rfl rfl (all_c (B := B)) (fun _ h => nomatch h) ?_
 intro bA _
 refine LJ_nil ?_
 refine QJ_then ?_
 refine CJ_block ?_
 refine CJ_rangeFunc (μr := []) rfl (all_it (h := h) (pts := pts) (tris := tris) hlen) (fun r h => h) (fun _ => rfl) (by kernel_rfl) (L := { ι := Unit, I := fun pre _ => ∀ x, x ∈ pre → ¬ hld pts x.2 (p1, p2), F := fun _ _ => ([cellsR b3 #[.int .i64 0, .int .i64 0, .int .i64 0, .int .i64 0] 42, cellsR b2 #[.int .i64 p1, .int .i64 p2] 23, cellsR b1 #[.pointer (some ⟨B, 0, none⟩)] 28], []), κ := Nat × Tr, Ix := fun c pre x => c = .ret ∧ ∃ pre', pre = pre' ++ [x] ∧ (∀ y, y ∈ pre' → ¬ hld pts y.2 (p1, p2)) ∧ hld pts x.2 (p1, p2), Fx := fun _ x => ([cellsR b3 #[.int .i64 (place pts x.2 x.1 (p1, p2)).1, .int .i64 (place pts x.2 x.1 (p1, p2)).2.1, .int .i64 (place pts x.2 x.1 (p1, p2)).2.2.1, .int .i64 (place pts x.2 x.1 (p1, p2)).2.2.2] 42, cellsR b2 #[.int .i64 p1, .int .i64 p2] 23, cellsR b1 #[.pointer (some ⟨B, 0, none⟩)] 28], []) }) () (fun _ h => nomatch h) (permI [] rfl) (fun _ h => nomatch h) ?_ ?_ ?_
 ·intro lR DR fnR tmpsR WR SR TR pre xR iR hpre hI
  obtain ⟨n, t⟩ := xR
  obtain ⟨hti, htr, hto⟩ := okAt hT hpre
  have hnl := (List.getElem?_eq_some_iff.1 hti).1
  show RJ _ _ _ _ _ ((14, _) :: (13, _) :: _) (objR lR _ :: defR DR :: _ :: _ :: _ :: []) _
  refine RJ_reg (by kernel_rfl) ?_
  refine LJ_y rfl rfl (YJ_assign rfl) ?_
  refine LJ_nil ?_
  refine QJ_begin (μr := [_, _, _, _]) (permI [] rfl) ?_
  refine RJ_block ?_
  refine RJ_seq ?_
  refine RJ_reg (by kernel_rfl) ?_
  refine LJ_y rfl rfl (YJ_loadL rfl tyi_28 m4 rfl) ?_
  refine LJ_y rfl rfl (YJ_move rfl) ?_
  refine LJ_y rfl rfl (YJ_loadN (vs := [_, _]) rfl tyi_23 m3 rfl rfl) ?_
  refine LJ_call0 rfl rfl rfl rfl rfl (holds_c (h := h) (tris := tris) hP (Int.natCast_nonneg n) (cast_idx hti) hto hp) (fun r h => .tail _ h) ?_
  refine LJ_nil ?_
  refine QJ_thenR (by repeat with_reducible first | exact no_round | exact no_begin | apply no_then | apply no_block) ?_
  refine RJ_cond rfl (fun h18 => ?_) (fun h18 => ?_)
  ·simp only [decide_eq_true_eq] at h18
   refine RJ_seq ?_
   refine RJ_reg (by kernel_rfl) ?_
   refine LJ_y rfl rfl (YJ_loadL rfl tyi_28 m4 rfl) ?_
   refine LJ_y rfl rfl (YJ_move rfl) ?_
   refine LJ_y rfl rfl (YJ_loadN (vs := [_, _]) rfl tyi_23 m3 rfl rfl) ?_
   refine LJ_call0 rfl rfl rfl rfl rfl (within_c (h := h) (tris := tris) hP (Int.natCast_nonneg n) (cast_idx hti) hto hp) (fun r h => .tail _ h) ?_
   refine LJ_store (cs' := #[_, _, _, _]) (μ' := [_, _, _, _, _]) 2 rfl rfl rfl rfl tyi_42 rfl (Nat.le_of_ble_eq_true rfl) rfl rfl rfl ?_
   refine LJ_nil ?_
   refine QJ_thenR (by repeat with_reducible first | exact no_round | exact no_begin | apply no_then | apply no_block) ?_
   refine RJ_ret ?_
   refine QJ_in_ret ?_
   refine QJ_leave (μ1 := [_, _, _, _]) (μ2 := []) (φ1 := []) rfl (permI [] rfl) (fun _ h => nomatch h) ?_
   exact .inr ⟨rfl, .ret, (n, t), ⟨rfl, pre, rfl, hI, h18⟩, rfl, rfl⟩
  ·simp only [decide_eq_false_iff_not] at h18
   refine RJ_skip ?_
   refine QJ_in_normal ?_
   refine QJ_again (μ1 := [_, _, _, _]) (μ2 := []) (φ1 := []) (permI [] rfl) (fun _ h => nomatch h) ?_
   exact .inl ⟨rfl, (), (fun y hy => by
    rcases List.mem_append.1 hy with hy | hy
    ·exact hI y hy
    ·rw [List.mem_singleton] at hy; subst hy; exact h18), rfl, rfl⟩
 ·intro D0 iR hI
  have hno : ∀ x, x ∈ reals tris → ¬ hld pts x.2 (p1, p2) := hI
  show QJ _ _ _ _ (defR D0 :: _ :: _ :: _ :: _) _
  refine QJ_in_normal ?_
  refine QJ_then ?_
  refine CJ_seq ?_
  refine CJ_reg ?_
  refine LJ_y rfl rfl (YJ_build1 (cs := [_, _, _, _]) lay_42 rfl rfl rfl) ?_
  refine LJ_alloc (cs := #[_, _, _, _]) rfl rfl zer_42 rfl ?_
  intro b4
  refine LJ_store (cs' := #[_, _, _, _]) (μ' := [_, _, _, _, _]) 0 rfl rfl rfl rfl tyi_42 rfl (Nat.le_of_ble_eq_true rfl) rfl rfl rfl ?_
  refine LJ_nil ?_
  refine QJ_then ?_
  refine CJ_seq ?_
  refine CJ_seq ?_
  refine CJ_reg ?_
  refine LJ_y rfl rfl (YJ_loadL rfl tyi_28 m4 rfl) ?_
  refine LJ_callX rfl rfl rfl rfl rfl (all_c (B := B)) (fun _ h => nomatch h) ?_
  intro bB _
  refine LJ_nil ?_
  refine QJ_then ?_
  refine CJ_block ?_
  refine CJ_rangeFunc (μr := [_, _]) rfl (all_it (h := h) (pts := pts) (tris := tris) hlen) (all_sub (fun r h => .tail _ h)) (fun _ => rfl) (by kernel_rfl) (L := { ι := Int, I := fun pre o => o = pre.foldl (lookTri pts tris (p1, p2)) (-1), F := fun _ o => ([cellsR b4 #[.int .i64 3, .int .i64 o, .int .i64 0, .int .i64 0] 42, cellsR b2 #[.int .i64 p1, .int .i64 p2] 23, cellsR b1 #[.pointer (some ⟨B, 0, none⟩)] 28], []), κ := Unit, Ix := fun _ _ _ => False, Fx := fun _ _ => ([], []) }) (-1) rfl (permI [0, 2, 2] rfl) (fun _ h => nomatch h) ?_ ?_ ?_
  ·intro lR DR fnR tmpsR WR SR TR pre xR iR hpre hI
   obtain ⟨n, t⟩ := xR
   obtain ⟨hti, htr, hto⟩ := okAt hT hpre
   have hnl := (List.getElem?_eq_some_iff.1 hti).1
   obtain ⟨oR, hoR⟩ : ∃ o, iR = o := ⟨_, rfl⟩
   subst hoR
   show RJ _ _ _ _ _ ((27, _) :: (26, _) :: _) (objR lR _ :: defR DR :: _ :: _ :: _ :: []) _
   refine RJ_seq ?_
   refine RJ_reg (by kernel_rfl) ?_
   refine LJ_y rfl rfl (YJ_assign rfl) ?_
   refine LJ_nil ?_
   refine QJ_thenR (by repeat with_reducible first | exact no_round | exact no_begin | apply no_then | apply no_block) ?_
   refine RJ_reg (by kernel_rfl) ?_
   refine LJ_alloc (cs := #[_, _, _, _, _, _, _, _, _]) rfl rfl zer_37 rfl ?_
   intro b5
   refine LJ_store (cs' := #[_, _, _, _, _, _, _, _, _]) (μ' := [_, _, _, _, _, _]) 0 rfl rfl rfl rfl tyi_37 rfl (Nat.le_of_ble_eq_true rfl) rfl (wr_all rfl) rfl ?_
   refine LJ_nil ?_
   refine QJ_begin (μr := [_, _, _, _, _]) (permI [1] rfl) ?_
   refine RJ_block ?_
   refine RJ_seq ?_
   refine RJ_reg (by kernel_rfl) ?_
   refine LJ_y rfl rfl (YJ_fieldOwn rfl fld_37_1 rfl) ?_
   refine LJ_y rfl rfl (YJ_loadN (vs := [_, _, _]) rfl tyi_34 m1 rfl rfl) ?_
   refine LJ_y rfl rfl (YJ_move rfl) ?_
   refine LJ_nil ?_
   refine QJ_thenR (by repeat with_reducible first | exact no_round | exact no_begin | apply no_then | apply no_block) ?_
   refine RJ_block ?_
   refine RJ_loopF (F := fun (i : Nat × Int) => ⟨[(2, .pointer (some ⟨b1, 0, none⟩)), (3, .pointer (some ⟨b2, 0, none⟩)), (6, .pointer (some ⟨b4, 0, none⟩)), (7, .int .i64 (n : Nat)), (29, .agg #[.int .i64 t.n0, .int .i64 t.n1, .int .i64 t.n2]), (30, .int .i64 (i.1 : Nat))], [cellsR b4 #[.int .i64 3, .int .i64 i.2, .int .i64 0, .int .i64 0] 42], []⟩) (I := fun (i : Nat × Int) => i.1 ≤ 3 ∧ i.2 = ([0, 1, 2].take i.1).foldl (lookStep pts tris (p1, p2) t) iR) (m := fun (i : Nat × Int) => 3 - i.1) (0, iR) (μr := [_, _, _, _, _]) ⟨Nat.zero_le _, rfl⟩ (And.intro rfl (And.intro rfl (And.intro rfl (And.intro rfl (And.intro rfl (And.intro rfl (trivial))))))) (permI [3] rfl) (fun _ h => nomatch h) ?_
   rintro ⟨k, out⟩ ⟨hk, hout⟩
   try dsimp only at hk
   try dsimp only at hout
   show RJ _ _ _ _ _ [(2, .pointer (some ⟨b1, 0, none⟩)), (3, .pointer (some ⟨b2, 0, none⟩)), (6, .pointer (some ⟨b4, 0, none⟩)), (7, .int .i64 (n : Nat)), (29, .agg #[.int .i64 t.n0, .int .i64 t.n1, .int .i64 t.n2]), (30, .int .i64 (k : Nat))] (cellsR b4 #[.int .i64 3, .int .i64 out, .int .i64 0, .int .i64 0] 42 :: _ :: _ :: _ :: _ :: _ :: _) _
   refine RJ_seq ?_
   refine RJ_reg (by kernel_rfl) ?_
   refine LJ_y rfl rfl (YJ_bin rfl rfl rfl) ?_
   refine LJ_nil ?_
   refine QJ_thenR (by repeat with_reducible first | exact no_round | exact no_begin | apply no_then | apply no_block) ?_
   refine RJ_seq ?_
   refine RJ_cond rfl (fun h31 => ?_) (fun h31 => ?_)
   ·simp only [decide_eq_true_eq] at h31
    have hk3 : k < 3 := by omega
    refine RJ_skip ?_
    refine QJ_thenR (by repeat with_reducible first | exact no_round | exact no_begin | apply no_then | apply no_block) ?_
    refine RJ_seq ?_
    refine RJ_block ?_
    refine RJ_seq ?_
    refine RJ_reg (by kernel_rfl) ?_
    refine LJ_y rfl rfl (YJ_move rfl) ?_
    refine LJ_y rfl rfl (YJ_index1 rfl rfl arrt_34 tyi_3 (by omega) (by omega) (n_get hk3)) ?_
    refine LJ_y rfl rfl (YJ_assign rfl) ?_
    refine LJ_y rfl rfl (YJ_assign rfl) ?_
    refine LJ_nil ?_
    refine QJ_thenR (by repeat with_reducible first | exact no_round | exact no_begin | apply no_then | apply no_block) ?_
    refine RJ_seq ?_
    refine RJ_regD mix (by kernel_rfl) (fun _ _ _ _ _ h => h) _ _ (fun _ h => h) (fun _ h => h) (by kernel_rfl) ?_
    refine AJ_y 0 rfl (by kernel_rfl) (by kernel_rfl) rfl rfl (YJ_loadL rfl tyi_28 m5 rfl) ?_
    refine AJ_y 1 rfl (by kernel_rfl) (by kernel_rfl) rfl rfl (YJ_move rfl) ?_
    refine AJ_call0 2 rfl (by kernel_rfl) rfl rfl rfl rfl rfl (real_c (h := h) (pts := pts) (tris := tris)) (fun r h => .tail _ (.tail _ h)) ?_
    refine AJ_y 3 rfl (by kernel_rfl) (by kernel_rfl) rfl rfl (YJ_not rfl) ?_
    refine AJ_y 4 rfl (by kernel_rfl) (by kernel_rfl) rfl rfl (YJ_move rfl) ?_
    refine AJ_boolC (fun h38 => ?_) (fun h38 => ?_)
    ·simp only [decide_eq_false_iff_not, Bool.not_eq_true'] at h38
     refine AJ_y 5 rfl (by kernel_rfl) (by kernel_rfl) rfl rfl (YJ_loadL rfl tyi_28 m5 rfl) ?_
     refine AJ_y 6 rfl (by kernel_rfl) (by kernel_rfl) rfl rfl (YJ_loadL rfl tyi_28 m5 rfl) ?_
     refine AJ_y 7 rfl (by kernel_rfl) (by kernel_rfl) rfl rfl (YJ_nilCheck rfl) ?_
     refine AJ_y 8 rfl (by kernel_rfl) (by kernel_rfl) rfl rfl (YJ_fieldOwn rfl fld_57_1 rfl) ?_
     refine AJ_y 9 rfl (by kernel_rfl) (by kernel_rfl) rfl rfl (YJ_loadFactP (A := some ⟨B, 0, none⟩) (j := 1) rfl rfl tyi_54 m2 rfl) ?_
     refine AJ_y 10 rfl (by kernel_rfl) (by kernel_rfl) rfl rfl (YJ_move rfl) ?_
     refine AJ_y 11 rfl (by kernel_rfl) (by kernel_rfl) rfl rfl (YJ_ixFact rfl rfl elt_54 m4 (by decide) (by omega) (by omega) (by omega)) ?_
     refine AJ_y 12 rfl (by kernel_rfl) (by kernel_rfl) rfl rfl (YJ_loadFactN (vs := [.int .i64 t.v0, .int .i64 t.v1, .int .i64 t.v2, .int .i64 t.n0, .int .i64 t.n1, .int .i64 t.n2, .bool t.f0, .bool t.f1, .bool t.f2]) (xs := trCells tris) rfl tyi_37 m4 (trCells_row (cast_idx hti)) rfl) ?_
     refine AJ_y 13 rfl (by kernel_rfl) (by kernel_rfl) rfl rfl (YJ_move rfl) ?_
     refine AJ_y 14 rfl (by kernel_rfl) (by kernel_rfl) rfl rfl (YJ_loadN (vs := [_, _]) rfl tyi_23 m4 rfl rfl) ?_
     refine AJ_call0 15 rfl (by kernel_rfl) rfl rfl rfl rfl rfl (beyond_c (k := k) (h := h) (tris := tris) hk3 hP hto hp) (fun r h => .tail _ (.tail _ h)) ?_
     refine AJ_y 16 rfl (by kernel_rfl) (by kernel_rfl) rfl rfl (YJ_pickT rfl rfl) ?_
     refine AJ_y 17 rfl (by kernel_rfl) (by kernel_rfl) rfl rfl (YJ_move rfl) ?_
     refine AJ_boolC (fun h51 => ?_) (fun h51 => ?_)
     ·simp only [decide_eq_true_eq] at h51
      refine AJ_y 18 rfl (by kernel_rfl) (by kernel_rfl) rfl rfl (YJ_fieldOwn rfl fld_42_1 rfl) ?_
      refine AJ_y 19 rfl (by kernel_rfl) (by kernel_rfl) rfl rfl (YJ_loadL rfl tyi_3 m0 rfl) ?_
      refine AJ_y 20 rfl (by kernel_rfl) (by kernel_rfl) rfl rfl (YJ_bin rfl rfl rfl) ?_
      refine AJ_y 21 rfl (by kernel_rfl) (by kernel_rfl) rfl rfl (YJ_move rfl) ?_
      refine AJ_boolC (fun h55 => ?_) (fun h55 => ?_)
      ·simp only [decide_eq_true_eq] at h55
       refine AJ_skip 22 rfl (by kernel_rfl) (by kernel_rfl) rfl rfl ?_
       refine AJ_skip 23 rfl (by kernel_rfl) (by kernel_rfl) rfl rfl ?_
       refine AJ_skip 24 rfl (by kernel_rfl) (by kernel_rfl) rfl rfl ?_
       refine AJ_skip 25 rfl (by kernel_rfl) (by kernel_rfl) rfl rfl ?_
       refine AJ_y 26 rfl (by kernel_rfl) (by kernel_rfl) rfl rfl (YJ_pickT rfl rfl) ?_
       refine AJ_y 27 rfl (by kernel_rfl) (by kernel_rfl) rfl rfl (YJ_pickT rfl rfl) ?_
       refine AJ_done (by kernel_rfl) ?_
       refine QJ_thenR (by repeat with_reducible first | exact no_round | exact no_begin | apply no_then | apply no_block) ?_
       refine RJ_condT rfl ?_
       refine RJ_reg (by kernel_rfl) ?_
       refine LJ_y rfl rfl (YJ_move rfl) ?_
       refine LJ_y rfl rfl (YJ_fieldOwn rfl fld_42_1 rfl) ?_
       refine LJ_store (cs' := #[_, _, _, _]) (μ' := [_, _, _, _, _, _]) 0 rfl rfl rfl rfl tyi_3 rfl (Nat.le_of_ble_eq_true rfl) rfl rfl rfl ?_
       refine LJ_nil ?_
       refine QJ_in_normal ?_
       refine QJ_thenR (by repeat with_reducible first | exact no_round | exact no_begin | apply no_then | apply no_block) ?_
       refine RJ_reg (by kernel_rfl) ?_
       refine LJ_y rfl rfl (YJ_bin rfl rfl (iop_add (by omega))) ?_
       refine LJ_y rfl rfl (YJ_move rfl) ?_
       refine LJ_nil ?_
       refine QJ_roundF (F := fun (i : Nat × Int) => ⟨[(2, .pointer (some ⟨b1, 0, none⟩)), (3, .pointer (some ⟨b2, 0, none⟩)), (6, .pointer (some ⟨b4, 0, none⟩)), (7, .int .i64 (n : Nat)), (29, .agg #[.int .i64 t.n0, .int .i64 t.n1, .int .i64 t.n2]), (30, .int .i64 (i.1 : Nat))], [cellsR b4 #[.int .i64 3, .int .i64 i.2, .int .i64 0, .int .i64 0] 42], []⟩) (I := fun (i : Nat × Int) => i.1 ≤ 3 ∧ i.2 = ([0, 1, 2].take i.1).foldl (lookStep pts tris (p1, p2) t) iR) (m := fun (i : Nat × Int) => 3 - i.1) (i := (k, out)) ((k + 1, t.n k)) (μd := []) ⟨by omega, by dsimp only; rw [look_three hk3, ← hout]; unfold lookStep; rw [if_pos (by first | exact ⟨h38, h51, .inl h55⟩ | exact ⟨h38, h51, .inr h61⟩)]⟩ (by dsimp only; omega) (And.intro rfl (And.intro rfl (And.intro rfl (And.intro rfl (And.intro rfl (And.intro rfl (trivial))))))) (permI [] rfl) (fun _ h => nomatch h) (fun _ h => h)
      ·simp only [decide_eq_false_iff_not] at h55
       refine AJ_y 22 rfl (by kernel_rfl) (by kernel_rfl) rfl rfl (YJ_move rfl) ?_
       refine AJ_y 23 rfl (by kernel_rfl) (by kernel_rfl) rfl rfl (YJ_fieldOwn rfl fld_42_1 rfl) ?_
       refine AJ_y 24 rfl (by kernel_rfl) (by kernel_rfl) rfl rfl (YJ_loadL rfl tyi_3 m0 rfl) ?_
       refine AJ_y 25 rfl (by kernel_rfl) (by kernel_rfl) rfl rfl (YJ_bin rfl rfl rfl) ?_
       refine AJ_y 26 rfl (by kernel_rfl) (by kernel_rfl) rfl rfl (YJ_pickF rfl rfl) ?_
       refine AJ_y 27 rfl (by kernel_rfl) (by kernel_rfl) rfl rfl (YJ_pickT rfl rfl) ?_
       refine AJ_done (by kernel_rfl) ?_
       refine QJ_thenR (by repeat with_reducible first | exact no_round | exact no_begin | apply no_then | apply no_block) ?_
       refine RJ_cond rfl (fun h61 => ?_) (fun h61 => ?_)
       ·simp only [decide_eq_true_eq] at h61
        refine RJ_reg (by kernel_rfl) ?_
        refine LJ_y rfl rfl (YJ_move rfl) ?_
        refine LJ_y rfl rfl (YJ_fieldOwn rfl fld_42_1 rfl) ?_
        refine LJ_store (cs' := #[_, _, _, _]) (μ' := [_, _, _, _, _, _]) 0 rfl rfl rfl rfl tyi_3 rfl (Nat.le_of_ble_eq_true rfl) rfl rfl rfl ?_
        refine LJ_nil ?_
        refine QJ_in_normal ?_
        refine QJ_thenR (by repeat with_reducible first | exact no_round | exact no_begin | apply no_then | apply no_block) ?_
        refine RJ_reg (by kernel_rfl) ?_
        refine LJ_y rfl rfl (YJ_bin rfl rfl (iop_add (by omega))) ?_
        refine LJ_y rfl rfl (YJ_move rfl) ?_
        refine LJ_nil ?_
        refine QJ_roundF (F := fun (i : Nat × Int) => ⟨[(2, .pointer (some ⟨b1, 0, none⟩)), (3, .pointer (some ⟨b2, 0, none⟩)), (6, .pointer (some ⟨b4, 0, none⟩)), (7, .int .i64 (n : Nat)), (29, .agg #[.int .i64 t.n0, .int .i64 t.n1, .int .i64 t.n2]), (30, .int .i64 (i.1 : Nat))], [cellsR b4 #[.int .i64 3, .int .i64 i.2, .int .i64 0, .int .i64 0] 42], []⟩) (I := fun (i : Nat × Int) => i.1 ≤ 3 ∧ i.2 = ([0, 1, 2].take i.1).foldl (lookStep pts tris (p1, p2) t) iR) (m := fun (i : Nat × Int) => 3 - i.1) (i := (k, out)) ((k + 1, t.n k)) (μd := []) ⟨by omega, by dsimp only; rw [look_three hk3, ← hout]; unfold lookStep; rw [if_pos (by first | exact ⟨h38, h51, .inl h55⟩ | exact ⟨h38, h51, .inr h61⟩)]⟩ (by dsimp only; omega) (And.intro rfl (And.intro rfl (And.intro rfl (And.intro rfl (And.intro rfl (And.intro rfl (trivial))))))) (permI [] rfl) (fun _ h => nomatch h) (fun _ h => h)
       ·simp only [decide_eq_false_iff_not] at h61
        refine RJ_skip ?_
        refine QJ_in_normal ?_
        refine QJ_thenR (by repeat with_reducible first | exact no_round | exact no_begin | apply no_then | apply no_block) ?_
        refine RJ_reg (by kernel_rfl) ?_
        refine LJ_y rfl rfl (YJ_bin rfl rfl (iop_add (by omega))) ?_
        refine LJ_y rfl rfl (YJ_move rfl) ?_
        refine LJ_nil ?_
        refine QJ_roundF (F := fun (i : Nat × Int) => ⟨[(2, .pointer (some ⟨b1, 0, none⟩)), (3, .pointer (some ⟨b2, 0, none⟩)), (6, .pointer (some ⟨b4, 0, none⟩)), (7, .int .i64 (n : Nat)), (29, .agg #[.int .i64 t.n0, .int .i64 t.n1, .int .i64 t.n2]), (30, .int .i64 (i.1 : Nat))], [cellsR b4 #[.int .i64 3, .int .i64 i.2, .int .i64 0, .int .i64 0] 42], []⟩) (I := fun (i : Nat × Int) => i.1 ≤ 3 ∧ i.2 = ([0, 1, 2].take i.1).foldl (lookStep pts tris (p1, p2) t) iR) (m := fun (i : Nat × Int) => 3 - i.1) (i := (k, out)) ((k + 1, out)) (μd := []) ⟨by omega, by dsimp only; rw [look_three hk3, ← hout]; unfold lookStep; rw [if_neg (fun q => by first | exact q.1 h38 | exact h51 q.2.1 | (have := q.2.2; omega))]⟩ (by dsimp only; omega) (And.intro rfl (And.intro rfl (And.intro rfl (And.intro rfl (And.intro rfl (And.intro rfl (trivial))))))) (permI [] rfl) (fun _ h => nomatch h) (fun _ h => h)
     ·simp only [decide_eq_false_iff_not] at h51
      refine AJ_skip 18 rfl (by kernel_rfl) (by kernel_rfl) rfl rfl ?_
      refine AJ_skip 19 rfl (by kernel_rfl) (by kernel_rfl) rfl rfl ?_
      refine AJ_skip 20 rfl (by kernel_rfl) (by kernel_rfl) rfl rfl ?_
      refine AJ_skip 21 rfl (by kernel_rfl) (by kernel_rfl) rfl rfl ?_
      refine AJ_skip 22 rfl (by kernel_rfl) (by kernel_rfl) rfl rfl ?_
      refine AJ_skip 23 rfl (by kernel_rfl) (by kernel_rfl) rfl rfl ?_
      refine AJ_skip 24 rfl (by kernel_rfl) (by kernel_rfl) rfl rfl ?_
      refine AJ_skip 25 rfl (by kernel_rfl) (by kernel_rfl) rfl rfl ?_
      refine AJ_skip 26 rfl (by kernel_rfl) (by kernel_rfl) rfl rfl ?_
      refine AJ_y 27 rfl (by kernel_rfl) (by kernel_rfl) rfl rfl (YJ_pickF rfl rfl) ?_
      refine AJ_done (by kernel_rfl) ?_
      refine QJ_thenR (by repeat with_reducible first | exact no_round | exact no_begin | apply no_then | apply no_block) ?_
      refine RJ_condF rfl ?_
      refine RJ_skip ?_
      refine QJ_in_normal ?_
      refine QJ_thenR (by repeat with_reducible first | exact no_round | exact no_begin | apply no_then | apply no_block) ?_
      refine RJ_reg (by kernel_rfl) ?_
      refine LJ_y rfl rfl (YJ_bin rfl rfl (iop_add (by omega))) ?_
      refine LJ_y rfl rfl (YJ_move rfl) ?_
      refine LJ_nil ?_
      refine QJ_roundF (F := fun (i : Nat × Int) => ⟨[(2, .pointer (some ⟨b1, 0, none⟩)), (3, .pointer (some ⟨b2, 0, none⟩)), (6, .pointer (some ⟨b4, 0, none⟩)), (7, .int .i64 (n : Nat)), (29, .agg #[.int .i64 t.n0, .int .i64 t.n1, .int .i64 t.n2]), (30, .int .i64 (i.1 : Nat))], [cellsR b4 #[.int .i64 3, .int .i64 i.2, .int .i64 0, .int .i64 0] 42], []⟩) (I := fun (i : Nat × Int) => i.1 ≤ 3 ∧ i.2 = ([0, 1, 2].take i.1).foldl (lookStep pts tris (p1, p2) t) iR) (m := fun (i : Nat × Int) => 3 - i.1) (i := (k, out)) ((k + 1, out)) (μd := []) ⟨by omega, by dsimp only; rw [look_three hk3, ← hout]; unfold lookStep; rw [if_neg (fun q => by first | exact q.1 h38 | exact h51 q.2.1 | (have := q.2.2; omega))]⟩ (by dsimp only; omega) (And.intro rfl (And.intro rfl (And.intro rfl (And.intro rfl (And.intro rfl (And.intro rfl (trivial))))))) (permI [] rfl) (fun _ h => nomatch h) (fun _ h => h)
    ·simp only [decide_eq_true_eq, Bool.not_eq_false'] at h38
     refine AJ_skip 5 rfl (by kernel_rfl) (by kernel_rfl) rfl rfl ?_
     refine AJ_skip 6 rfl (by kernel_rfl) (by kernel_rfl) rfl rfl ?_
     refine AJ_skip 7 rfl (by kernel_rfl) (by kernel_rfl) rfl rfl ?_
     refine AJ_skip 8 rfl (by kernel_rfl) (by kernel_rfl) rfl rfl ?_
     refine AJ_skip 9 rfl (by kernel_rfl) (by kernel_rfl) rfl rfl ?_
     refine AJ_skip 10 rfl (by kernel_rfl) (by kernel_rfl) rfl rfl ?_
     refine AJ_skip 11 rfl (by kernel_rfl) (by kernel_rfl) rfl rfl ?_
     refine AJ_skip 12 rfl (by kernel_rfl) (by kernel_rfl) rfl rfl ?_
     refine AJ_skip 13 rfl (by kernel_rfl) (by kernel_rfl) rfl rfl ?_
     refine AJ_skip 14 rfl (by kernel_rfl) (by kernel_rfl) rfl rfl ?_
     refine AJ_skip 15 rfl (by kernel_rfl) (by kernel_rfl) rfl rfl ?_
     refine AJ_y 16 rfl (by kernel_rfl) (by kernel_rfl) rfl rfl (YJ_pickF rfl rfl) ?_
     refine AJ_y 17 rfl (by kernel_rfl) (by kernel_rfl) rfl rfl (YJ_move rfl) ?_
     refine AJ_skip 18 rfl (by kernel_rfl) (by kernel_rfl) rfl rfl ?_
     refine AJ_skip 19 rfl (by kernel_rfl) (by kernel_rfl) rfl rfl ?_
     refine AJ_skip 20 rfl (by kernel_rfl) (by kernel_rfl) rfl rfl ?_
     refine AJ_skip 21 rfl (by kernel_rfl) (by kernel_rfl) rfl rfl ?_
     refine AJ_skip 22 rfl (by kernel_rfl) (by kernel_rfl) rfl rfl ?_
     refine AJ_skip 23 rfl (by kernel_rfl) (by kernel_rfl) rfl rfl ?_
     refine AJ_skip 24 rfl (by kernel_rfl) (by kernel_rfl) rfl rfl ?_
     refine AJ_skip 25 rfl (by kernel_rfl) (by kernel_rfl) rfl rfl ?_
     refine AJ_skip 26 rfl (by kernel_rfl) (by kernel_rfl) rfl rfl ?_
     refine AJ_y 27 rfl (by kernel_rfl) (by kernel_rfl) rfl rfl (YJ_pickF rfl rfl) ?_
     refine AJ_done (by kernel_rfl) ?_
     refine QJ_thenR (by repeat with_reducible first | exact no_round | exact no_begin | apply no_then | apply no_block) ?_
     refine RJ_condF rfl ?_
     refine RJ_skip ?_
     refine QJ_in_normal ?_
     refine QJ_thenR (by repeat with_reducible first | exact no_round | exact no_begin | apply no_then | apply no_block) ?_
     refine RJ_reg (by kernel_rfl) ?_
     refine LJ_y rfl rfl (YJ_bin rfl rfl (iop_add (by omega))) ?_
     refine LJ_y rfl rfl (YJ_move rfl) ?_
     refine LJ_nil ?_
     refine QJ_roundF (F := fun (i : Nat × Int) => ⟨[(2, .pointer (some ⟨b1, 0, none⟩)), (3, .pointer (some ⟨b2, 0, none⟩)), (6, .pointer (some ⟨b4, 0, none⟩)), (7, .int .i64 (n : Nat)), (29, .agg #[.int .i64 t.n0, .int .i64 t.n1, .int .i64 t.n2]), (30, .int .i64 (i.1 : Nat))], [cellsR b4 #[.int .i64 3, .int .i64 i.2, .int .i64 0, .int .i64 0] 42], []⟩) (I := fun (i : Nat × Int) => i.1 ≤ 3 ∧ i.2 = ([0, 1, 2].take i.1).foldl (lookStep pts tris (p1, p2) t) iR) (m := fun (i : Nat × Int) => 3 - i.1) (i := (k, out)) ((k + 1, out)) (μd := []) ⟨by omega, by dsimp only; rw [look_three hk3, ← hout]; unfold lookStep; rw [if_neg (fun q => by first | exact q.1 h38 | exact h51 q.2.1 | (have := q.2.2; omega))]⟩ (by dsimp only; omega) (And.intro rfl (And.intro rfl (And.intro rfl (And.intro rfl (And.intro rfl (And.intro rfl (trivial))))))) (permI [] rfl) (fun _ h => nomatch h) (fun _ h => h)
   ·simp only [decide_eq_false_iff_not] at h31
    refine RJ_exit ?_
    refine QJ_then_exit ?_
    refine QJ_then_exit ?_
    refine QJ_in_exit ?_
    refine QJ_in_normal ?_
    refine QJ_again (μ1 := [_, _, _, _]) (μ2 := [_]) (φ1 := []) (permI [1, 2, 0, 1, 1] rfl) (fun _ h => nomatch h) ?_
    exact .inl ⟨rfl, out, (by
     have hI3 : iR = pre.foldl (lookTri pts tris (p1, p2)) (-1) := hI
     show out = (pre ++ [(n, t)]).foldl (lookTri pts tris (p1, p2)) (-1)
     rw [List.foldl_append, ← hI3]
     show out = lookTri pts tris (p1, p2) iR (n, t)
     rw [hout, List.take_of_length_le (by simp; omega)]
     rfl), rfl, rfl⟩
  ·intro D1 iR hI
   show QJ _ _ _ _ (defR D1 :: _ :: _ :: _ :: _) _
   refine QJ_in_normal ?_
   refine QJ_then ?_
   refine CJ_seq ?_
   refine CJ_reg ?_
   refine LJ_y rfl rfl (YJ_loadN (vs := [_, _, _, _]) rfl tyi_42 m1 rfl rfl) ?_
   refine LJ_store (cs' := #[_, _, _, _]) (μ' := [_, _, _, _, _, _]) 5 rfl rfl rfl rfl tyi_42 rfl (Nat.le_of_ble_eq_true rfl) rfl rfl rfl ?_
   refine LJ_nil ?_
   refine QJ_then ?_
   refine CJ_ret ?_
   refine QJ_finM (.inl rfl) [D1, D0] rfl (μ' := []) (μr := [_, _, _, _]) (φ' := []) (res_cell (vs := [_, _, _, _]) rfl rfl m3 tyi_42 rfl) (permI [0, 3] rfl) (fun _ h => nomatch h) ?_
   have hI2 : iR = (reals tris).foldl (lookTri pts tris (p1, p2)) (-1) := hI
   have e : look pts tris (p1, p2) = (3, iR, 0, 0) := (look_none hno).trans (by rw [hI2])
   exact ⟨(congrArg plV e).symm, rfl, rfl⟩
  ·exact fun _ _ _ _ _ h => h.elim
 ·intro D0 cR pre iR hpre hI
  obtain ⟨rfl, pre', rfl, hI1, hI2⟩ := hI
  show CJ _ _ _ _ (defR D0 :: _ :: _ :: _ :: _) _
  refine CJ_ret ?_
  refine QJ_in_ret ?_
  refine QJ_then_ret ?_
  refine QJ_finM (.inl rfl) [D0] rfl (μ' := []) (μr := [_, _, _]) (φ' := []) (res_cell (vs := [_, _, _, _]) rfl rfl m0 tyi_42 rfl) (permI [] rfl) (fun _ h => nomatch h) ?_
  exact ⟨(congrArg plV (look_found hI1 hI2 hpre)).symm, rfl, rfl⟩
end Go.Proofs.Ytbanlhlggkdanaa
namespace Go.Proofs.Ytbanlhlggkdanaa
open Go.RowKit
theorem OJ_conv {E : Env} {op : Op} {ty : TypeId} {σ : List (Nat × Value)} {μ φ : List Res} {X X' : Value → List Res → List Res → Prop} (ho : OJ E op ty σ μ φ X)
  (h : ∀ v μ' φ', X v μ' φ' → ∃ μ'', X' v μ'' φ' ∧ List.Perm μ' μ'') : OJ E op ty σ μ φ X' := fun a w d pos af g K Q hs hm hK =>
 ho a w d pos af g K Q hs hm fun v μ' φ' w' hx hm' => by
  obtain ⟨μ'', h1, h2⟩ := h v μ' φ' hx
  exact hK v μ'' φ' w' h1 (hm'.weak (μr := []) (by simpa using h2) (fun _ h => h))
theorem perm_at {l : List Res} {k : Nat} {r : Res} (h : l[k]? = some r) : List.Perm l (r :: l.eraseIdx k) := perm_erase l k r h
theorem perm_set {l : List Res} {k : Nat} {r : Res} (r' : Res) (h : l[k]? = some r) : List.Perm (r' :: l.eraseIdx k) (l.set k r') := by
 have hlt : k < l.length := (List.getElem?_eq_some_iff.1 h).1
 have := perm_erase (l.set k r') k r' (by simp [hlt])
 rw [List.eraseIdx_set_eq] at this
 exact this.symm
def layN (P : Program) (t : TypeId) : Option (List Value × List (Nat × Nat)) :=
 match P.info? t, P.underlying t with
 | some it, some (.struct fs) => match it.zero, fs.toList.mapM (fun f => (P.info? f.type).map fun i => (f.offset, i.size)) with
  | some z, some places => some (z.cells.toList, places)
  | _, _ => none
 | _, _ => none
def setParts (places : List (Nat × Nat)) : Array Value → List (Nat × Value) → Array Value
 | cs, [] => cs
 | cs, (i, v) :: r => setParts places (wr cs ((places[i]?).getD (0, 0)).1 v.cells.toList) r
def partsOk (places : List (Nat × Nat)) (n : Nat) (pvs : List (Nat × Value)) : Bool := pvs.all fun p => match places[p.1]? with
 | some (o, s) => Nat.beq p.2.cells.size s && Nat.ble (o + s) n
 | none => false
theorem fill_parts (places : List (Nat × Nat)) : ∀ (pvs : List (Nat × Value)) (cs : Array Value), partsOk places cs.size pvs = true → Instr.fill (places.toArray[·]?) cs pvs = some (setParts places cs pvs)
 | [], cs, _ => by simp [Instr.fill, setParts]
 | (i, v) :: r, cs, h => by
  simp only [partsOk, List.all_cons, Bool.and_eq_true] at h
  obtain ⟨h1, h2⟩ := h
  cases hp : places[i]? with
  | none => rw [hp] at h1; cases h1
  | some q =>
   obtain ⟨o, sz⟩ := q
   rw [hp] at h1
   simp only [Bool.and_eq_true] at h1
   have e1 := Nat.eq_of_beq_eq_true h1.1
   have e2 := Nat.le_of_ble_eq_true h1.2
   have hz : v.cells.zipIdx.foldl (fun (cs : Array Value) (x : Value × Nat) => match x with | (c, j) => cs.setIfInBounds (o + j) c) cs = wr cs o v.cells.toList := by
    have := zip_wr v.cells.toList 0 o cs
    rw [Nat.add_zero] at this
    rw [← this, ← Array.foldl_toList, Array.toList_zipIdx]
   have hp' : places.toArray[i]? = some (o, sz) := by simpa using hp
   simp only [Instr.fill, hp', setParts, hp, Option.getD_some]
   rw [if_neg (by simp only [e1, bne_self_eq_false, ne_eq, not_true_eq_false, decide_false, Bool.false_or, decide_eq_true_eq]; omega), hz]
   exact fill_parts places r _ (by rw [wr_size]; exact h2)
theorem built_of_layN {P : Program} {t : TypeId} {zs : List Value} {places : List (Nat × Nat)} {pvs : List (Nat × Value)} (hl : layN P t = some (zs, places)) (hok : partsOk places zs.length pvs = true) : P.built t pvs = some (setParts places zs.toArray pvs) := by
 unfold layN at hl
 unfold Program.built
 cases hi : P.info? t with
 | none => rw [hi] at hl; simp at hl
 | some it =>
  rw [hi] at hl
  cases hu : P.underlying t with
  | none => rw [hu] at hl; simp at hl
  | some d =>
   rw [hu] at hl
   cases d <;> simp at hl
   rename_i fs
   cases hz : it.zero with
   | none => rw [hz] at hl; simp at hl
   | some z =>
    simp only [hz] at hl ⊢
    generalize (List.mapM (fun (f : Field) => (P.info? f.type).map fun i => (f.offset, i.size)) fs.toList) = ps at *
    cases ps with
    | none => simp at hl
    | some places' =>
     simp only [Option.some.injEq, Prod.mk.injEq] at hl
     obtain ⟨rfl, rfl⟩ := hl
     have := fill_parts places' pvs z.cells (by simpa using hok)
     simpa using this
section
variable {E : Env} {ty : TypeId} {σ : List (Nat × Value)} {μ φ : List Res}
theorem YJ_buildN {t : TypeId} {parts : Array (Nat × Operand)} {pvs : List (Nat × Value)} {zs cs : List Value} {places : List (Nat × Nat)} (hl : layN E.P t = some (zs, places)) (hp : oevP σ parts.toList = some pvs) (hok : partsOk places zs.length pvs = true) (hc : setParts places zs.toArray pvs = cs.toArray) :
  YJ E (.build t parts) ty σ μ φ (.agg cs.toArray) := by
 rw [← hc]
 refine YJ_build (pvs := pvs) (fun a hs => ?_) (built_of_layN hl hok)
 have := hs.evP hp
 simpa using this
theorem OJ_appendK {t e : TypeId} {size bytes : Nat} {z : Value} {x y : Operand} {A B : Option Addr} {n c m c' : Nat} {xs news ys : List Value} (k : Nat) (he : elt E.P t = some (e, size, bytes)) (hz : zer E.P e = some z) (hzs : z.cells.size = size)
  (hk : μ[k]? = some (rowR e size A n c xs)) (hx : oev σ x = some (.slice A n c)) (hy : oev σ y = some (.slice B m c')) (hrd : Rd μ φ B news) (hl : news.length = m * size) (h1 : news.all (·.oneCell') = true) (hm : 0 < m) (h63 : n + m ≤ 1073741824) (hb : bytes ≤ 65536) (hys : xs ++ news = ys) :
  OJ E (.call { callee := .builtin .append, args := #[x, y], argTypes := #[t, t] }) ty σ μ φ (fun v μ' φ' => ∃ A' c2, v = .slice A' (n + m) c2 ∧ μ' = μ.set k (rowR e size A' (n + m) c2 ys) ∧ φ' = φ) :=
 OJ_conv (OJ_append he hz hzs hx hy (perm_at hk) hrd hl h1 hm h63 hb hys) fun v μ' φ' ⟨A', c2, h1, h2, h3⟩ => ⟨_, ⟨A', c2, h1, rfl, h3⟩, by subst h2; exact perm_set _ hk⟩
theorem OJ_storeRowK {t e : TypeId} {x y : Operand} {n c m size off : Nat} {A : Option Addr} {ad : Addr} {v : Value} {ag : Bool} {xs xs' : List Value} (k : Nat) (hk : μ[k]? = some (rowR e size A n c xs)) (hx : oev σ x = some (.pointer (some ad))) (had : ad = (adr A).add off) (hy : oev σ y = some v)
  (ht : tyi E.P t = some (ag, m)) (hn : v.cells.size = m) (hb : off + m ≤ xs.length) (h1 : v.cells.toList.all (·.oneCell') = true) (hxs : xs.take off ++ (v.cells.toList ++ xs.drop (off + m)) = xs') (hm0 : 0 < xs.length) :
  OJ E (.store t x y) ty σ μ φ (fun _ μ' φ' => μ' = μ.set k (rowR e size A n c xs') ∧ φ' = φ) :=
 OJ_conv (OJ_storeRow (perm_at hk) hx had hy ht hn hb h1 hxs hm0) fun v μ' φ' ⟨h1, h2⟩ => ⟨_, ⟨rfl, h2⟩, by subst h1; exact perm_set _ hk⟩
def RetL {ι : Type} (C : ι → Prop) (f : ι → Value) (r : ι → Res) (g : ι → List Res) : Value → List Res → List Res → Prop := fun v μ φ => ∃ x, C x ∧ v = f x ∧ μ = [r x] ∧ φ = g x
def Ret1 (v0 : Value) (r : Res) : Value → List Res → List Res → Prop := fun v μ φ => v = v0 ∧ μ = [r] ∧ φ = []
theorem OJ_call1 {x : Operand} {xs : Array Operand} {at_ : Array TypeId} {f : FuncId} {cap : Array Value} {vs : List Value} {r r' : Res} {φ1 : List Res} {v0 : Value} (k : Nat) (hk : μ[k]? = some r) (hx : oev σ x = some (.func (.func f) #[] cap)) (hxs : oevs σ xs.toList = some vs)
  (ht : Tri E.P f (vs ++ cap.toList) [r] φ1 (Ret1 v0 r')) (hφ : ∀ r, r ∈ φ1 → r ∈ φ) :
  OJ E (.call { callee := .value x, args := xs, argTypes := at_ }) ty σ μ φ (fun v μ' φ' => v = v0 ∧ μ' = μ.set k r' ∧ φ' = φ) :=
 OJ_conv (OJ_call (μr := μ.eraseIdx k) hx hxs ht (perm_at hk) hφ) fun v μ' φ' ⟨_, _, ⟨hv, h1, h2⟩, h3, h4⟩ => ⟨_, ⟨hv, rfl, by subst h2; exact h4⟩, by subst h1; subst h3; exact perm_set _ hk⟩
variable {Q : Qt} {ops : Array Oper} {rest : List Oper} {d : Tmp} {pos : String} {af : Array Edge} {g : Option (Nat × Bool)} {ml pl : List Res} {fuel : Nat} {listed : Array Bool} {M : List (Res × List Nat)}
section
variable {t e : TypeId} {size bytes : Nat} {z : Value} {x y : Operand} {A B : Option Addr} {n c m c' : Nat} {xs news ys : List Value}
theorem LJ_append (k : Nat) (hg : grd ops σ g = some true) (hd : Nat.blt d E.N = true) (he : elt E.P t = some (e, size, bytes)) (hz : zer E.P e = some z) (hzs : z.cells.size = size)
  (hk : μ[k]? = some (rowR e size A n c xs)) (hx : oev σ x = some (.slice A n c)) (hy : oev σ y = some (.slice B m c')) (hrd : Rd μ φ B news) (hl : news.length = m * size) (h1 : news.all (·.oneCell') = true) (hm : 0 < m) (h63 : n + m ≤ 1073741824) (hb : bytes ≤ 65536) (hys : xs ++ news = ys)
  (h : ∀ A' c2, LJ E Q ops rest ((d, .slice A' (n + m) c2) :: σ) (μ.set k (rowR e size A' (n + m) c2 ys)) φ) : LJ E Q ops (⟨some d, .call { callee := .builtin .append, args := #[x, y], argTypes := #[t, t] }, ty, pos, af, g⟩ :: rest) σ μ φ :=
 LJ_o hg hd (OJ_appendK k he hz hzs hk hx hy hrd hl h1 hm h63 hb hys) (by rintro _ _ _ ⟨A', c2, rfl, rfl, rfl⟩; exact h A' c2)
theorem BJ_append (i k : Nat) (hi : ops[i]? = some ⟨some d, .call { callee := .builtin .append, args := #[x, y], argTypes := #[t, t] }, ty, pos, af, g⟩) (hr : Region.ready .any ops listed = [i])
  (hg : grd ops σ g = some true) (hd : Nat.blt d E.N = true) (he : elt E.P t = some (e, size, bytes)) (hz : zer E.P e = some z) (hzs : z.cells.size = size)
  (hk : μ[k]? = some (rowR e size A n c xs)) (hx : oev σ x = some (.slice A n c)) (hy : oev σ y = some (.slice B m c')) (hrd : Rd μ φ B news) (hl : news.length = m * size) (h1 : news.all (·.oneCell') = true) (hm : 0 < m) (h63 : n + m ≤ 1073741824) (hb : bytes ≤ 65536) (hys : xs ++ news = ys)
  (hM : ∀ A' c2, AllM i (μ.set k (rowR e size A' (n + m) c2 ys)) M)
  (h : ∀ A' c2, BJ E Q ops M pl fuel (listed.setIfInBounds i true) ((d, .slice A' (n + m) c2) :: σ) (μ.set k (rowR e size A' (n + m) c2 ys)) φ) : BJ E Q ops M pl (fuel + 1) listed σ μ φ :=
 BJ_o i hi hr hg hd (OJ_appendK k he hz hzs hk hx hy hrd hl h1 hm h63 hb hys) (by rintro _ _ _ ⟨A', c2, rfl, rfl, rfl⟩; exact ⟨hM A' c2, fun _ _ h => h, h A' c2⟩)
end
section
variable {t e : TypeId} {x y : Operand} {n c m size off : Nat} {A : Option Addr} {ad : Addr} {v : Value} {ag : Bool} {xs xs' : List Value} {μ' : List Res}
theorem LJ_storeRow (k : Nat) (hg : grd ops σ g = some true) (hk : μ[k]? = some (rowR e size A n c xs)) (hx : oev σ x = some (.pointer (some ad))) (had : ad = (adr A).add off) (hy : oev σ y = some v)
  (ht : tyi E.P t = some (ag, m)) (hn : v.cells.size = m) (hb : off + m ≤ xs.length) (h1 : v.cells.toList.all (·.oneCell') = true) (hxs : xs.take off ++ (v.cells.toList ++ xs.drop (off + m)) = xs') (hm0 : 0 < xs.length) (hμ' : μ.set k (rowR e size A n c xs') = μ')
  (h : LJ E Q ops rest σ μ' φ) : LJ E Q ops (⟨none, .store t x y, ty, pos, af, g⟩ :: rest) σ μ φ := by
 subst hμ'
 exact LJ_o0 hg (OJ_storeRowK k hk hx had hy ht hn hb h1 hxs hm0) (by rintro _ _ _ ⟨rfl, rfl⟩; exact h)
theorem AJ_storeRow (i k : Nat) (hi : ops[i]? = some ⟨none, .store t x y, ty, pos, af, g⟩) (hr : Region.ready .any ops listed = [i]) (hg : grd ops σ g = some true) (hk : μ[k]? = some (rowR e size A n c xs)) (hx : oev σ x = some (.pointer (some ad))) (had : ad = (adr A).add off) (hy : oev σ y = some v)
  (ht : tyi E.P t = some (ag, m)) (hn : v.cells.size = m) (hb : off + m ≤ xs.length) (h1 : v.cells.toList.all (·.oneCell') = true) (hxs : xs.take off ++ (v.cells.toList ++ xs.drop (off + m)) = xs') (hm0 : 0 < xs.length) (hμ' : μ.set k (rowR e size A n c xs') = μ')
  (hml : (∀ r, r ∈ ml → r ∈ μ) → ∀ r, r ∈ ml → r ∈ μ') (h : AJ E Q ops ml pl fuel (listed.setIfInBounds i true) σ μ' φ) : AJ E Q ops ml pl (fuel + 1) listed σ μ φ := by
 subst hμ'
 exact AJ_o0 i hi hr hg (OJ_storeRowK k hk hx had hy ht hn hb h1 hxs hm0) (by rintro _ _ _ ⟨rfl, rfl⟩; exact ⟨hml, fun _ _ h => h, h⟩)
end
section
variable {ι : Type} {C : ι → Prop} {fv : ι → Value} {rf : ι → Res} {gf : ι → List Res} {x : Operand} {xs : Array Operand} {at_ : Array TypeId} {f : FuncId} {cap : Array Value} {vs vs' : List Value} {r r' : Res} {φ1 : List Res} {v0 : Value}
theorem LJ_callN (hg : grd ops σ g = some true) (hd : Nat.blt d E.N = true) (hx : oev σ x = some (.func (.func f) #[] cap)) (hxs : oevs σ xs.toList = some vs) (hv : vs ++ cap.toList = vs')
  (ht : Tri E.P f vs' [] φ1 (RetL C fv rf gf)) (hφ : ∀ r, r ∈ φ1 → r ∈ φ) (h : ∀ x, C x → LJ E Q ops rest ((d, fv x) :: σ) (rf x :: μ) (gf x ++ φ)) : LJ E Q ops (⟨some d, .call { callee := .value x, args := xs, argTypes := at_ }, ty, pos, af, g⟩ :: rest) σ μ φ := by
 subst hv
 exact LJ_o hg hd (OJ_call (μr := μ) hx hxs ht (List.Perm.refl _) hφ) (by rintro _ _ _ ⟨_, _, ⟨x, hc, rfl, rfl, rfl⟩, rfl, rfl⟩; exact h x hc)
theorem LJ_call1 (k : Nat) (hg : grd ops σ g = some true) (hd : Nat.blt d E.N = true) (hk : μ[k]? = some r) (hx : oev σ x = some (.func (.func f) #[] cap)) (hxs : oevs σ xs.toList = some vs) (hv : vs ++ cap.toList = vs')
  (ht : Tri E.P f vs' [r] φ1 (Ret1 v0 r')) (hφ : ∀ r, r ∈ φ1 → r ∈ φ) (h : LJ E Q ops rest ((d, v0) :: σ) (μ.set k r') φ) : LJ E Q ops (⟨some d, .call { callee := .value x, args := xs, argTypes := at_ }, ty, pos, af, g⟩ :: rest) σ μ φ := by
 subst hv
 exact LJ_o hg hd (OJ_call1 k hk hx hxs ht hφ) (by rintro _ _ _ ⟨rfl, rfl, rfl⟩; exact h)
theorem AJ_call1 (i k : Nat) (hi : ops[i]? = some ⟨some d, .call { callee := .value x, args := xs, argTypes := at_ }, ty, pos, af, g⟩) (hr : Region.ready .any ops listed = [i]) (hg : grd ops σ g = some true) (hd : Nat.blt d E.N = true) (hk : μ[k]? = some r) (hx : oev σ x = some (.func (.func f) #[] cap)) (hxs : oevs σ xs.toList = some vs) (hv : vs ++ cap.toList = vs')
  (ht : Tri E.P f vs' [r] φ1 (Ret1 v0 r')) (hφ : ∀ r, r ∈ φ1 → r ∈ φ) (hml : ∀ q, q ∈ ml → q ∈ μ.set k r') (h : AJ E Q ops ml pl fuel (listed.setIfInBounds i true) ((d, v0) :: σ) (μ.set k r') φ) : AJ E Q ops ml pl (fuel + 1) listed σ μ φ := by
 subst hv
 exact AJ_o i hi hr hg hd (OJ_call1 k hk hx hxs ht hφ) (by rintro _ _ _ ⟨rfl, rfl, rfl⟩; exact ⟨fun r h _ => hml r h, fun _ _ h => h, h⟩)
end
theorem BJ_buildSlice {t e : TypeId} {len size bytes : Nat} {z : Value} {parts : Array (Nat × Operand)} {vs : List Value} {cs : List Value} (i : Nat) (hi : ops[i]? = some ⟨some d, .buildSlice t len parts, ty, pos, af, g⟩) (hr : Region.ready .any ops listed = [i]) (hg : grd ops σ g = some true) (hd : Nat.blt d E.N = true)
  (he : elt E.P t = some (e, size, bytes)) (hz : zer E.P e = some z) (hl : len * size ≤ 16777216) (h0 : len * size ≠ 0) (hs1 : z.cells.size = size)
  (hp : oevP σ parts.toList = some (vs.zipIdx 0 |>.map fun p => (p.2, p.1))) (hlen : vs.length = len) (hv : vs.all (fun v => Nat.beq v.cells.size size) = true) (hc : vs.flatMap (·.cells.toList) = cs)
  (hM : ∀ b, AllM i (cellsR b cs.toArray e :: μ) M) (h : ∀ b, BJ E Q ops M pl fuel (listed.setIfInBounds i true) ((d, .slice (some ⟨b, 0, none⟩) len len) :: σ) (cellsR b cs.toArray e :: μ) φ) : BJ E Q ops M pl (fuel + 1) listed σ μ φ :=
 BJ_o i hi hr hg hd (OJ_buildSliceN he hz hl h0 hs1 hp hlen hv hc) (by rintro _ _ _ ⟨b, rfl, rfl, rfl⟩; exact ⟨hM b, fun _ _ h => h, h b⟩)
theorem OKm.rowSome {e : TypeId} {size n c : Nat} {A : Option Addr} {xs : List Value} {w : World} (h : OKm E μ φ w) (hm : rowR e size A n c xs ∈ μ) (hn : 0 < n) : ∃ g, A = some ⟨g, 0, none⟩ ∧ n ≤ c := by
 obtain ⟨S, hS⟩ := h.hold.1 _ hm
 rcases hS.2 with ⟨_, h0, _⟩ | ⟨g, _, h1, _, _, h2, _⟩
 ·omega
 ·exact ⟨g, h1, h2⟩
variable {cd : Code}
theorem CJ_rowSome {e : TypeId} {size n c : Nat} {A : Option Addr} {xs : List Value} (hm : rowR e size A n c xs ∈ μ) (hn : 0 < n) (h : ∀ g, A = some ⟨g, 0, none⟩ → n ≤ c → CJ E Q cd σ μ φ) : CJ E Q cd σ μ φ := fun a w ha hmm => let ⟨g, hg, hc⟩ := hmm.rowSome hm hn; h g hg hc a w ha hmm
theorem OKm.turnK {w : World} {k : Nat} {r r' : Res} (h : OKm E μ φ w) (hk : μ[k]? = some r) (hr : ∀ w S, r.p w S → r'.p w S) : OKm E (μ.set k r') φ w :=
 ((h.weak (μr := []) (by simpa using perm_at hk) (fun _ h => h)).head hr).weak (μr := []) (by simpa using perm_set r' hk) (fun _ h => h)
theorem CJ_turnK {k : Nat} {r r' : Res} (hk : μ[k]? = some r) (hr : ∀ w S, r.p w S → r'.p w S) (h : CJ E Q cd σ (μ.set k r') φ) : CJ E Q cd σ μ φ := fun a w ha hm => h a w ha (hm.turnK hk hr)
theorem LJ_turnK {k : Nat} {r r' : Res} (hk : μ[k]? = some r) (hr : ∀ w S, r.p w S → r'.p w S) (h : LJ E Q ops rest σ (μ.set k r') φ) : LJ E Q ops rest σ μ φ := fun a w ha hm => h a w ha (hm.turnK hk hr)
theorem CJ_freezeRowK {e : TypeId} {size n n' c : Nat} {A : Option Addr} {xs xs' : List Value} (k : Nat) (hk : μ[k]? = some (rowR e size A n c xs)) (hn : n = n') (hx : xs = xs') (h : CJ E Q cd σ (μ.eraseIdx k) (sliceR size A n' xs' :: φ)) : CJ E Q cd σ μ φ := by
 subst hn; subst hx
 exact fun a w ha hm => h a w ha (hm.weak (μr := []) (by simpa using perm_at hk) (fun _ h => h)).freezeRow
theorem CJ_freezeCells {b size n : Nat} {cs : Array Value} {xs : List Value} {t : TypeId} (k : Nat) (hk : μ[k]? = some (cellsR b cs t)) (hn : cs.size = n * size) (hx : cs.toList = xs) (h : CJ E Q cd σ (μ.eraseIdx k) (sliceR size (some ⟨b, 0, none⟩) n xs :: φ)) : CJ E Q cd σ μ φ := by
 subst hx
 exact fun a w ha hm => h a w ha ((OKm.addF (r := cellsR b cs t) (r' := sliceR size (some ⟨b, 0, none⟩) n cs.toList) ((hm.weak (μr := []) (by simpa using perm_at hk) (fun _ h => h)).freeze) (.head _) (fun S h => cellsR_slice hn w S h)).turn (fun _ h => h) (fun T hT r hr => hT r (by
  rcases List.mem_cons.1 hr with rfl | hr
  ·exact .head _
  ·exact .tail _ (.tail _ hr))))
theorem CJ_openAt {ι : Type} {f : ι → List Res} (k : Nat) (hk : μ[k]? = some (exR f)) (h : ∀ i, CJ E Q cd σ (f i ++ μ.eraseIdx k) φ) : CJ E Q cd σ μ φ := fun a w ha hm =>
 let ⟨i, h'⟩ := (hm.weak (μr := []) (by simpa using perm_at hk) (fun _ h => h) : OKm E (exR f :: μ.eraseIdx k) φ w).openEx
 h i a w ha h'
end
end Go.Proofs.Ytbanlhlggkdanaa
namespace Go.Proofs.Ytbanlhlggkdanaa
open Go.RowKit
theorem ent_49 : Enter Try.prog 49 = true := by kernel_rfl
theorem fld_37_2 : fld Try.prog 37 2 = some 6 := by kernel_rfl
theorem arrt_35 : arrt Try.prog 35 = some (3, 4, 1) := by kernel_rfl
theorem ent_34 : Enter Try.prog 34 = true := by kernel_rfl
theorem lay_34 : lay1 Try.prog 34 = some [.int .i64 0, .int .i64 0, .int .i64 0] := by kernel_rfl
theorem layn_37 : layN Try.prog 37 = some ([.int .i64 0, .int .i64 0, .int .i64 0, .int .i64 0, .int .i64 0, .int .i64 0, .bool false, .bool false, .bool false], [(0, 3), (3, 3), (6, 3)]) := by kernel_rfl
theorem fld_57_2 : fld Try.prog 57 2 = some 2 := by kernel_rfl
theorem tyi_55 : tyi Try.prog 55 = some (false, 1) := by kernel_rfl
theorem fld_57_3 : fld Try.prog 57 3 = some 3 := by kernel_rfl
theorem ulen_26 : ((#[26] : Array TypeId)[0]?).bind Try.prog.underlying = some (.slice (Try.prog.elem ((#[26] : Array TypeId).getD 0 0))) := by kernel_rfl
structure MD where
 pts : List (Int × Int)
 tris : List Tr
 free : List Int
 ats : List Int
structure Hd where
 P : Option Addr
 cP : Nat
 T : Option Addr
 cT : Nat
 F : Option Addr
 cF : Nat
 A : Option Addr
 cA : Nat
def meshL (B : Nat) (M : MD) (h : Hd) : List Res := [cellsR B #[.slice h.P M.pts.length h.cP, .slice h.T M.tris.length h.cT, .slice h.F M.free.length h.cF, .slice h.A M.ats.length h.cA] 57,
 rowR 23 2 h.P M.pts.length h.cP (ptCells M.pts), rowR 37 9 h.T M.tris.length h.cT (trCells M.tris), rowR 3 1 h.F M.free.length h.cF (Iv M.free), rowR 3 1 h.A M.ats.length h.cA (Iv M.ats)]
def meshR (B : Nat) (M : MD) : Res := exR (meshL B M)
def partL (B : Nat) (P : Option Addr) (nP cP : Nat) (xP : List Value) (T : Option Addr) (nT cT : Nat) (xT : List Value) (F : Option Addr) (nF cF : Nat) (xF : List Value) (A : Option Addr) (nA cA : Nat) (xA : List Value) : List Res :=
 [cellsR B #[.slice P nP cP, .slice T nT cT, .slice F nF cF, .slice A nA cA] 57, rowR 23 2 P nP cP xP, rowR 37 9 T nT cT xT, rowR 3 1 F nF cF xF, rowR 3 1 A nA cA xA]
section
variable {E : Env} {Q : Qt} {σ : List (Nat × Value)} {μ φ μr : List Res} {ops : Array Oper} {rest : List Oper} {cd : Code} {ex : Exit} {B : Nat} {P : Option Addr} {nP cP : Nat} {xP : List Value} {T : Option Addr} {nT cT : Nat} {xT : List Value} {F : Option Addr} {nF cF : Nat} {xF : List Value} {A : Option Addr} {nA cA : Nat} {xA : List Value}
theorem OKm.closeMesh {w : World} (M : MD) (h : OKm E μ φ w) (hp : List.Perm μ (partL B P nP cP xP T nT cT xT F nF cF xF A nA cA xA ++ μr)) (h1 : nP = M.pts.length ∧ xP = ptCells M.pts) (h2 : nT = M.tris.length ∧ xT = trCells M.tris) (h3 : nF = M.free.length ∧ xF = Iv M.free) (h4 : nA = M.ats.length ∧ xA = Iv M.ats) : OKm E (meshR B M :: μr) φ w := by
 obtain ⟨rfl, rfl⟩ := h1; obtain ⟨rfl, rfl⟩ := h2; obtain ⟨rfl, rfl⟩ := h3; obtain ⟨rfl, rfl⟩ := h4
 exact OKm.closeEx (f := meshL B M) (i := ⟨P, cP, T, cT, F, cF, A, cA⟩) (h.weak (μr := []) (by rw [List.append_nil]; exact hp) (fun _ h => h))
theorem QJ_closeMesh (M : MD) (hp : List.Perm μ (partL B P nP cP xP T nT cT xT F nF cF xF A nA cA xA ++ μr)) (h1 : nP = M.pts.length ∧ xP = ptCells M.pts) (h2 : nT = M.tris.length ∧ xT = trCells M.tris) (h3 : nF = M.free.length ∧ xF = Iv M.free) (h4 : nA = M.ats.length ∧ xA = Iv M.ats)
  (h : QJ E Q ex σ (meshR B M :: μr) φ) : QJ E Q ex σ μ φ := fun a w ha hm => h a w ha (hm.closeMesh M hp h1 h2 h3 h4)
theorem CJ_closeMesh (M : MD) (hp : List.Perm μ (partL B P nP cP xP T nT cT xT F nF cF xF A nA cA xA ++ μr)) (h1 : nP = M.pts.length ∧ xP = ptCells M.pts) (h2 : nT = M.tris.length ∧ xT = trCells M.tris) (h3 : nF = M.free.length ∧ xF = Iv M.free) (h4 : nA = M.ats.length ∧ xA = Iv M.ats)
  (h : CJ E Q cd σ (meshR B M :: μr) φ) : CJ E Q cd σ μ φ := fun a w ha hm => h a w ha (hm.closeMesh M hp h1 h2 h3 h4)
theorem LJ_closeMesh (M : MD) (hp : List.Perm μ (partL B P nP cP xP T nT cT xT F nF cF xF A nA cA xA ++ μr)) (h1 : nP = M.pts.length ∧ xP = ptCells M.pts) (h2 : nT = M.tris.length ∧ xT = trCells M.tris) (h3 : nF = M.free.length ∧ xF = Iv M.free) (h4 : nA = M.ats.length ∧ xA = Iv M.ats)
  (h : LJ E Q ops rest σ (meshR B M :: μr) φ) : LJ E Q ops rest σ μ φ := fun a w ha hm => h a w ha (hm.closeMesh M hp h1 h2 h3 h4)
end
theorem addr_eq {g q off : Nat} (h : q = off) : (⟨g, q, none⟩ : Addr) = (adr (some ⟨g, 0, none⟩)).add off := by
 subst h
 show _ = (⟨g, 0, none⟩ : Addr).add q
 rw [Addr.add_lit, Nat.zero_add]
theorem trCells_len : ∀ (l : List Tr), (trCells l).length = l.length * 9
 | [] => rfl
 | t :: l => by
  have := trCells_len l
  simp only [trCells, List.flatMap_cons, List.length_append, List.length_cons, Tr.cells, List.length_nil] at *
  omega
theorem one_set {xs : List Value} {off : Nat} {v : Value} (h : off < xs.length) : xs.take off ++ ([v] ++ xs.drop (off + 1)) = xs.set off v := by
 rw [List.set_eq_take_append_cons_drop, if_pos h]
 rfl
theorem trCells_modify : ∀ {l : List Tr} {k j : Nat} {v : Value} {f : Tr → Tr}, (∀ t, (f t).cells = t.cells.set j v) → j < 9 → (trCells l).set (k * 9 + j) v = trCells (l.modify k f)
 | [], k, j, v, f, _, _ => by simp [trCells]
 | t :: l, 0, j, v, f, hf, hj => by
  simp only [trCells, List.flatMap_cons, List.modify_zero_cons, Nat.zero_mul, Nat.zero_add]
  rw [List.set_append_left _ _ (by simpa [Tr.cells] using hj), hf]
 | t :: l, k + 1, j, v, f, hf, hj => by
  have ih := trCells_modify (l := l) (k := k) hf hj
  simp only [trCells, List.flatMap_cons, List.modify_succ_cons] at *
  rw [List.set_append_right _ _ (by simp [Tr.cells]; omega), ← ih]
  congr 2
  simp [Tr.cells]; omega
theorem trCells_set : ∀ {l : List Tr} {k : Nat} {t : Tr}, k < l.length → (trCells l).take (k * 9) ++ (t.cells ++ (trCells l).drop (k * 9 + 9)) = trCells (l.set k t)
 | [], k, t, h => by simp at h
 | u :: l, 0, t, _ => by
  simp only [trCells, List.flatMap_cons, List.set_cons_zero, Nat.zero_mul, List.take_zero, List.nil_append, Nat.zero_add]
  rw [List.drop_append_of_le_length (by simp [Tr.cells]), List.drop_of_length_le (by simp [Tr.cells]), List.nil_append]
 | u :: l, k + 1, t, h => by
  have ih := trCells_set (l := l) (k := k) (t := t) (by simpa using h)
  have hl : u.cells.length = 9 := rfl
  simp only [trCells, List.flatMap_cons, List.set_cons_succ] at *
  rw [← ih, List.take_append, List.drop_append, hl, List.take_of_length_le (by omega), List.drop_of_length_le (by omega), show (k + 1) * 9 - 9 = k * 9 by omega, show (k + 1) * 9 + 9 - 9 = k * 9 + 9 by omega]
  simp
def Tr.setN (t : Tr) (i : Nat) (u : Int) : Tr := if i = 0 then { t with n0 := u } else if i = 1 then { t with n1 := u } else { t with n2 := u }
def Tr.setF (t : Tr) (i : Nat) (f : Bool) : Tr := if i = 0 then { t with f0 := f } else if i = 1 then { t with f1 := f } else { t with f2 := f }
theorem setN_cells {i : Nat} (hi : i < 3) {u : Int} (t : Tr) : (t.setN i u).cells = t.cells.set (3 + i) (.int .i64 u) := by
 match i, hi with
 | 0, _ => rfl
 | 1, _ => rfl
 | 2, _ => rfl
theorem setF_cells {i : Nat} (hi : i < 3) {f : Bool} (t : Tr) : (t.setF i f).cells = t.cells.set (6 + i) (.bool f) := by
 match i, hi with
 | 0, _ => rfl
 | 1, _ => rfl
 | 2, _ => rfl
theorem row_setN {l : List Tr} {k i off : Nat} {u : Int} (hk : k < l.length) (hi : i < 3) (ho : off = k * 9 + (3 + i)) : (trCells l).take off ++ ((Value.int .i64 u).cells.toList ++ (trCells l).drop (off + 1)) = trCells (l.modify k (·.setN i u)) := by
 subst ho
 rw [← trCells_modify (j := 3 + i) (setN_cells hi) (by omega), ← one_set (by rw [trCells_len]; omega)]
 rfl
theorem row_setF {l : List Tr} {k i off : Nat} {f : Bool} (hk : k < l.length) (hi : i < 3) (ho : off = k * 9 + (6 + i)) : (trCells l).take off ++ ((Value.bool f).cells.toList ++ (trCells l).drop (off + 1)) = trCells (l.modify k (·.setF i f)) := by
 subst ho
 rw [← trCells_modify (j := 6 + i) (setF_cells hi) (by omega), ← one_set (by rw [trCells_len]; omega)]
 rfl
def MD.link (m : MD) (t i u j : Nat) (f : Bool) : MD := { m with tris := (((m.tris.modify t (·.setN i u)).modify u (·.setN j t)).modify t (·.setF i f)).modify u (·.setF j f) }
set_option maxRecDepth 100000 in
set_option maxHeartbeats 1000000 in
theorem link_c {B : Nat} {M : MD} {t i u j : Nat} {f : Bool} (ht : t < M.tris.length) (hu : u < M.tris.length) (hi : i < 3) (hj : j < 3) : Tri Try.prog 49 [.pointer (some ⟨B, 0, none⟩), .int .i64 (t : Int), .int .i64 (i : Int), .int .i64 (u : Int), .int .i64 (j : Int), .bool f] [meshR B M] [] (Ret1 (.tuple #[]) (meshR B (M.link t i u j f))) := by
 refine Tri_of (N := 52) Try.func49 rfl ent_49 rfl rfl ?_
 intro w0 S0 T0
 show CJ _ _ _ [(0, _), (1, _), (2, _), (3, _), (4, _), (5, _)] _ _
 refine CJ_open (fun hd => ?_)
 obtain ⟨P, cP, T, cT, F, cF, A, cA⟩ := hd
 show CJ _ _ _ _ [cellsR B #[.slice P M.pts.length cP, .slice T M.tris.length cT, .slice F M.free.length cF, .slice A M.ats.length cA] _, rowR _ 2 P M.pts.length cP (ptCells M.pts), rowR _ 9 T M.tris.length cT (trCells M.tris), rowR _ 1 F M.free.length cF (Iv M.free), rowR _ 1 A M.ats.length cA (Iv M.ats)] _
 refine CJ_rowSome (A := T) m2 (by omega) (fun gT hT hcT => ?_)
 subst hT
 refine CJ_seq ?_
 refine CJ_regD mix (by kernel_rfl) (fun _ _ _ _ _ h => h) (selR [0, 1, 3, 4] _) _ (selR_sub _ _) (fun _ h => h) ?_
 refine AJ_y 0 rfl (by kernel_rfl) (by kernel_rfl) rfl rfl (YJ_move rfl) ?_
 refine AJ_y 1 rfl (by kernel_rfl) (by kernel_rfl) rfl rfl (YJ_nilCheck rfl) ?_
 refine AJ_y 2 rfl (by kernel_rfl) (by kernel_rfl) rfl rfl (YJ_fieldOwn rfl fld_57_1 rfl) ?_
 refine AJ_y 3 rfl (by kernel_rfl) (by kernel_rfl) rfl rfl (YJ_loadL rfl tyi_54 m0 rfl) ?_
 refine AJ_y 4 rfl (by kernel_rfl) (by kernel_rfl) rfl rfl (YJ_move rfl) ?_
 refine AJ_y 5 rfl (by kernel_rfl) (by kernel_rfl) rfl rfl (YJ_move rfl) ?_
 refine AJ_y 6 rfl (by kernel_rfl) (by kernel_rfl) rfl rfl (YJ_move rfl) ?_
 refine AJ_y 7 rfl (by kernel_rfl) (by kernel_rfl) rfl rfl (YJ_nilCheck rfl) ?_
 refine AJ_y 8 rfl (by kernel_rfl) (by kernel_rfl) rfl rfl (YJ_fieldOwn rfl fld_57_1 rfl) ?_
 refine AJ_y 9 rfl (by kernel_rfl) (by kernel_rfl) rfl rfl (YJ_loadL rfl tyi_54 m0 rfl) ?_
 refine AJ_y 10 rfl (by kernel_rfl) (by kernel_rfl) rfl rfl (YJ_move rfl) ?_
 refine AJ_y 11 rfl (by kernel_rfl) (by kernel_rfl) rfl rfl (YJ_move rfl) ?_
 refine AJ_y 12 rfl (by kernel_rfl) (by kernel_rfl) rfl rfl (YJ_move rfl) ?_
 refine AJ_y 13 rfl (by kernel_rfl) (by kernel_rfl) rfl rfl (YJ_move rfl) ?_
 refine AJ_y 14 rfl (by kernel_rfl) (by kernel_rfl) rfl rfl (YJ_ixOwn rfl rfl elt_54 (by omega) (by omega)) ?_
 refine AJ_y 15 rfl (by kernel_rfl) (by kernel_rfl) rfl rfl (YJ_fieldOwn rfl fld_37_1 rfl) ?_
 refine AJ_y 16 rfl (by kernel_rfl) (by kernel_rfl) rfl rfl (YJ_ixArr rfl rfl arrt_34 (by omega) (by omega) rfl) ?_
 refine AJ_y 18 rfl (by kernel_rfl) (by kernel_rfl) rfl rfl (YJ_ixOwn rfl rfl elt_54 (by omega) (by omega)) ?_
 refine AJ_y 19 rfl (by kernel_rfl) (by kernel_rfl) rfl rfl (YJ_fieldOwn rfl fld_37_1 rfl) ?_
 refine AJ_storeRow (off := t * 9 + (3 + i)) (xs' := trCells (M.tris.modify t (·.setN i u))) (μ' := (_ :: _ :: _ :: _ :: _ :: _)) 17 2 rfl (by kernel_rfl) rfl rfl rfl (addr_eq (by simp only [Nat.add_eq]; omega)) rfl tyi_3 rfl (by simp only [trCells_len, List.length_modify]; omega) rfl (row_setN ht hi rfl) (by simp only [trCells_len, List.length_modify]; omega) rfl (fun _ => AllIn.sub (And.intro m0 (And.intro m1 (And.intro m3 (And.intro m4 (trivial)))))) ?_
 refine AJ_y 20 rfl (by kernel_rfl) (by kernel_rfl) rfl rfl (YJ_ixArr rfl rfl arrt_34 (by omega) (by omega) rfl) ?_
 refine AJ_storeRow (off := u * 9 + (3 + j)) (xs' := trCells ((M.tris.modify t (·.setN i u)).modify u (·.setN j t))) (μ' := (_ :: _ :: _ :: _ :: _ :: _)) 21 2 rfl (by kernel_rfl) rfl rfl rfl (addr_eq (by simp only [Nat.add_eq]; omega)) rfl tyi_3 rfl (by simp only [trCells_len, List.length_modify]; omega) rfl (row_setN (by simp only [List.length_modify]; omega) hj rfl) (by simp only [trCells_len, List.length_modify]; omega) rfl (fun _ => AllIn.sub (And.intro m0 (And.intro m1 (And.intro m3 (And.intro m4 (trivial)))))) ?_
 refine AJ_done (by kernel_rfl) ?_
 refine QJ_then ?_
 refine CJ_regD mix (by kernel_rfl) (fun _ _ _ _ _ h => h) (selR [0, 1, 3, 4] _) _ (selR_sub _ _) (fun _ h => h) ?_
 refine AJ_y 0 rfl (by kernel_rfl) (by kernel_rfl) rfl rfl (YJ_move rfl) ?_
 refine AJ_y 1 rfl (by kernel_rfl) (by kernel_rfl) rfl rfl (YJ_nilCheck rfl) ?_
 refine AJ_y 2 rfl (by kernel_rfl) (by kernel_rfl) rfl rfl (YJ_fieldOwn rfl fld_57_1 rfl) ?_
 refine AJ_y 3 rfl (by kernel_rfl) (by kernel_rfl) rfl rfl (YJ_loadL rfl tyi_54 m0 rfl) ?_
 refine AJ_y 4 rfl (by kernel_rfl) (by kernel_rfl) rfl rfl (YJ_move rfl) ?_
 refine AJ_y 5 rfl (by kernel_rfl) (by kernel_rfl) rfl rfl (YJ_move rfl) ?_
 refine AJ_y 6 rfl (by kernel_rfl) (by kernel_rfl) rfl rfl (YJ_move rfl) ?_
 refine AJ_y 7 rfl (by kernel_rfl) (by kernel_rfl) rfl rfl (YJ_nilCheck rfl) ?_
 refine AJ_y 8 rfl (by kernel_rfl) (by kernel_rfl) rfl rfl (YJ_fieldOwn rfl fld_57_1 rfl) ?_
 refine AJ_y 9 rfl (by kernel_rfl) (by kernel_rfl) rfl rfl (YJ_loadL rfl tyi_54 m0 rfl) ?_
 refine AJ_y 10 rfl (by kernel_rfl) (by kernel_rfl) rfl rfl (YJ_move rfl) ?_
 refine AJ_y 11 rfl (by kernel_rfl) (by kernel_rfl) rfl rfl (YJ_move rfl) ?_
 refine AJ_y 12 rfl (by kernel_rfl) (by kernel_rfl) rfl rfl (YJ_move rfl) ?_
 refine AJ_y 13 rfl (by kernel_rfl) (by kernel_rfl) rfl rfl (YJ_move rfl) ?_
 refine AJ_y 14 rfl (by kernel_rfl) (by kernel_rfl) rfl rfl (YJ_ixOwn rfl rfl elt_54 (by omega) (by omega)) ?_
 refine AJ_y 15 rfl (by kernel_rfl) (by kernel_rfl) rfl rfl (YJ_fieldOwn rfl fld_37_2 rfl) ?_
 refine AJ_y 16 rfl (by kernel_rfl) (by kernel_rfl) rfl rfl (YJ_ixArr rfl rfl arrt_35 (by omega) (by omega) rfl) ?_
 refine AJ_y 18 rfl (by kernel_rfl) (by kernel_rfl) rfl rfl (YJ_ixOwn rfl rfl elt_54 (by omega) (by omega)) ?_
 refine AJ_y 19 rfl (by kernel_rfl) (by kernel_rfl) rfl rfl (YJ_fieldOwn rfl fld_37_2 rfl) ?_
 refine AJ_storeRow (off := t * 9 + (6 + i)) (xs' := trCells (((M.tris.modify t (·.setN i u)).modify u (·.setN j t)).modify t (·.setF i f))) (μ' := (_ :: _ :: _ :: _ :: _ :: _)) 17 2 rfl (by kernel_rfl) rfl rfl rfl (addr_eq (by simp only [Nat.add_eq]; omega)) rfl tyi_4 rfl (by simp only [trCells_len, List.length_modify]; omega) rfl (row_setF (by simp only [List.length_modify]; omega) hi rfl) (by simp only [trCells_len, List.length_modify]; omega) rfl (fun _ => AllIn.sub (And.intro m0 (And.intro m1 (And.intro m3 (And.intro m4 (trivial)))))) ?_
 refine AJ_y 20 rfl (by kernel_rfl) (by kernel_rfl) rfl rfl (YJ_ixArr rfl rfl arrt_35 (by omega) (by omega) rfl) ?_
 refine AJ_storeRow (off := u * 9 + (6 + j)) (xs' := trCells ((((M.tris.modify t (·.setN i u)).modify u (·.setN j t)).modify t (·.setF i f)).modify u (·.setF j f))) (μ' := (_ :: _ :: _ :: _ :: _ :: _)) 21 2 rfl (by kernel_rfl) rfl rfl rfl (addr_eq (by simp only [Nat.add_eq]; omega)) rfl tyi_4 rfl (by simp only [trCells_len, List.length_modify]; omega) rfl (row_setF (by simp only [List.length_modify]; omega) hj rfl) (by simp only [trCells_len, List.length_modify]; omega) rfl (fun _ => AllIn.sub (And.intro m0 (And.intro m1 (And.intro m3 (And.intro m4 (trivial)))))) ?_
 refine AJ_done (by kernel_rfl) ?_
 refine QJ_closeMesh (M.link t i u j f) (permI [] rfl) ⟨rfl, rfl⟩ ⟨by simp [MD.link], rfl⟩ ⟨rfl, rfl⟩ ⟨rfl, rfl⟩ ?_
 exact QJ_fin (.inr rfl) (μ' := [_]) (μr := []) (φ' := []) (res_none rfl) (List.Perm.refl _) (fun _ h => nomatch h) ⟨rfl, rfl, rfl⟩
def Tr.gone : Tr := ⟨-2, -2, -2, -1, -1, -1, false, false, false⟩
def Tr.new (a b c : Int) : Tr := ⟨a, b, c, -1, -1, -1, false, false, false⟩
def MD.drop (m : MD) (t : Nat) : MD := { m with tris := m.tris.set t Tr.gone, free := m.free ++ [(t : Int)] }
def MD.add (m : MD) (p : Int × Int) : MD := { m with pts := m.pts ++ [p], ats := m.ats ++ [-1] }
theorem row_set {l : List Tr} {k off : Nat} {t : Tr} (hk : k < l.length) (ho : off = k * 9) : (trCells l).take off ++ ((Value.agg t.cells.toArray).cells.toList ++ (trCells l).drop (off + 9)) = trCells (l.set k t) := by
 subst ho
 exact trCells_set hk
theorem Iv_app (l : List Int) (k : Int) : Iv l ++ [.int .i64 k] = Iv (l ++ [k]) := by simp [Iv]
theorem ptCells_app : ∀ (l : List (Int × Int)) (p : Int × Int), ptCells l ++ [.int .i64 p.1, .int .i64 p.2] = ptCells (l ++ [p])
 | [], p => rfl
 | q :: l, p => by
  have := ptCells_app l p
  simp only [ptCells, List.flatMap_cons, List.cons_append, List.append_assoc] at *
  rw [this]
theorem trCells_app (l : List Tr) (t : Tr) : trCells l ++ t.cells = trCells (l ++ [t]) := by simp [trCells]
theorem Iv_len (l : List Int) : (Iv l).length = l.length := by simp [Iv]
set_option maxRecDepth 100000 in
set_option maxHeartbeats 1000000 in
theorem drop_c {B : Nat} {M : MD} {t : Nat} (ht : t < M.tris.length) (hlen : M.tris.length ≤ 1000000) (hfl : M.free.length ≤ 1000000) : Tri Try.prog 34 [.pointer (some ⟨B, 0, none⟩), .int .i64 (t : Int)] [meshR B M] [] (Ret1 (.tuple #[]) (meshR B (M.drop t))) := by
 refine Tri_of (N := 23) Try.func34 rfl ent_34 rfl rfl ?_
 intro w0 S0 T0
 show CJ _ _ _ [(0, _), (1, _)] _ _
 refine CJ_open (fun hd => ?_)
 obtain ⟨P, cP, T, cT, F, cF, A, cA⟩ := hd
 show CJ _ _ _ _ [cellsR B #[.slice P M.pts.length cP, .slice T M.tris.length cT, .slice F M.free.length cF, .slice A M.ats.length cA] _, rowR _ 2 P M.pts.length cP (ptCells M.pts), rowR _ 9 T M.tris.length cT (trCells M.tris), rowR _ 1 F M.free.length cF (Iv M.free), rowR _ 1 A M.ats.length cA (Iv M.ats)] _
 refine CJ_rowSome (A := T) m2 (by omega) (fun gT hT hcT => ?_)
 subst hT
 refine CJ_seq ?_
 refine CJ_reg ?_
 refine LJ_y rfl rfl (YJ_move rfl) ?_
 refine LJ_y rfl rfl (YJ_nilCheck rfl) ?_
 refine LJ_y rfl rfl (YJ_fieldOwn rfl fld_57_1 rfl) ?_
 refine LJ_y rfl rfl (YJ_loadL rfl tyi_54 m0 rfl) ?_
 refine LJ_y rfl rfl (YJ_move rfl) ?_
 refine LJ_y rfl rfl (YJ_build1 (cs := [_, _, _]) lay_34 rfl rfl rfl) ?_
 refine LJ_y rfl rfl (YJ_build1 (cs := [_, _, _]) lay_34 rfl rfl rfl) ?_
 refine LJ_y rfl rfl (YJ_buildN (cs := [_, _, _, _, _, _, _, _, _]) layn_37 rfl rfl rfl) ?_
 refine LJ_y rfl rfl (YJ_ixOwn rfl rfl elt_54 (by omega) (by omega)) ?_
 refine LJ_storeRow (off := t * 9) (xs' := trCells (M.tris.set t Tr.gone)) (μ' := (_ :: _ :: _ :: _ :: _ :: _)) 2 rfl rfl rfl (addr_eq (by omega)) rfl tyi_37 rfl (by rw [trCells_len]; omega) rfl (row_set (t := Tr.gone) ht rfl) (by rw [trCells_len]; omega) rfl ?_
 refine LJ_nil ?_
 refine QJ_then ?_
 refine CJ_reg ?_
 refine LJ_y rfl rfl (YJ_move rfl) ?_
 refine LJ_y rfl rfl (YJ_move rfl) ?_
 refine LJ_y rfl rfl (YJ_nilCheck rfl) ?_
 refine LJ_y rfl rfl (YJ_fieldOwn rfl fld_57_2 rfl) ?_
 refine LJ_y rfl rfl (YJ_loadL rfl tyi_55 m0 rfl) ?_
 refine LJ_y rfl rfl (YJ_move rfl) ?_
 refine LJ_buildSlice (cs := [_]) rfl rfl elt_55 zer_3 rfl (by decide) (pvs := [(_, _)]) rfl rfl rfl ?_
 intro b1
 refine LJ_append 4 rfl rfl elt_55 zer_3 rfl rfl rfl rfl (Rd_own m0) rfl rfl (by omega) (by omega) (by decide) (Iv_app M.free (t : Int)) ?_
 intro A20 c20
 show LJ _ _ _ _ _ (_ :: _ :: _ :: _ :: _ :: _ :: _) _
 refine LJ_y rfl rfl (YJ_nilCheck rfl) ?_
 refine LJ_y rfl rfl (YJ_fieldOwn rfl fld_57_2 rfl) ?_
 refine LJ_store (cs' := #[_, _, _, _]) (μ' := [_, _, _, _, _, _]) 1 rfl rfl rfl rfl tyi_55 rfl (Nat.le_of_ble_eq_true rfl) rfl rfl rfl ?_
 refine LJ_nil ?_
 refine QJ_closeMesh (M.drop t) (permI [1, 1, 1, 1, 1] rfl) ⟨rfl, rfl⟩ ⟨by simp [MD.drop], rfl⟩ ⟨by simp [MD.drop], rfl⟩ ⟨rfl, rfl⟩ ?_
 exact QJ_fin (.inr rfl) (μ' := [_]) (μr := [_]) (φ' := []) (res_none rfl) (List.Perm.refl _) (fun _ h => nomatch h) ⟨rfl, rfl, rfl⟩
end Go.Proofs.Ytbanlhlggkdanaa
namespace Go.Proofs.Ytbanlhlggkdanaa
open Go.RowKit
theorem ent_35 : Enter Try.prog 35 = true := by kernel_rfl
def MD.nextN (m : MD) : Int := match m.free.getLast? with
 | some k => k
 | none => m.tris.length
def setAt (l : List Int) (v n : Int) : List Int := if 0 ≤ v then l.set v.toNat n else l
def MD.make (m : MD) (a b c : Int) : MD :=
 { m with
  tris := match m.free.getLast? with
   | some k => m.tris.set k.toNat (Tr.new a b c)
   | none => m.tris ++ [Tr.new a b c]
  free := m.free.dropLast
  ats := setAt (setAt (setAt m.ats a m.nextN) b m.nextN) c m.nextN }
theorem last_of {l : List Int} (h : 0 < l.length) : ∃ k, l.getLast? = some k ∧ (Iv l)[l.length - 1]? = some (.int .i64 k) ∧ (Iv l).take ((l.length - 1) * 1) = Iv l.dropLast ∧ k ∈ l := by
 have hne : l ≠ [] := by intro e; subst e; simp at h
 refine ⟨l.getLast hne, List.getLast?_eq_some_getLast hne, ?_, ?_, List.getLast_mem hne⟩
 ·rw [Iv, List.getElem?_map, ← List.getLast?_eq_getElem?, List.getLast?_eq_some_getLast hne]
  rfl
 ·rw [Nat.mul_one, Iv, ← List.map_take, List.dropLast_eq_take]
  rfl
theorem setAt_len (l : List Int) (v n : Int) : (setAt l v n).length = l.length := by unfold setAt; split <;> simp
theorem Iv_setAt {l : List Int} {v n : Int} {off : Nat} (h0 : 0 ≤ v) (h1 : v < l.length) (ho : off = v.toNat) : (Iv l).take off ++ ((Value.int .i64 n).cells.toList ++ (Iv l).drop (off + 1)) = Iv (setAt l v n) := by
 subst ho
 have e : setAt l v n = l.set v.toNat n := if_pos h0
 rw [e]
 have := one_set (xs := Iv l) (off := v.toNat) (v := .int .i64 n) (by rw [Iv_len]; omega)
 exact this.trans (by simp [Iv, List.map_set])
set_option maxRecDepth 100000 in
set_option maxHeartbeats 4000000 in
theorem make_c {B : Nat} {M : MD} {a b c : Int} (hlen : M.tris.length ≤ 1000000) (hfl : M.free.length ≤ 1000000) (hfr : ∀ k, k ∈ M.free → 0 ≤ k ∧ k < M.tris.length) (ha : a < M.ats.length) (hb : b < M.ats.length) (hc : c < M.ats.length) (hA : 0 < M.ats.length) : Tri Try.prog 35 [.pointer (some ⟨B, 0, none⟩), .int .i64 a, .int .i64 b, .int .i64 c] [meshR B M] [] (Ret1 (.int .i64 M.nextN) (meshR B (M.make a b c))) := by
 refine Tri_of (N := 83) Try.func35 rfl ent_35 rfl rfl ?_
 intro w0 S0 T0
 show CJ _ _ _ [(0, _), (1, _), (2, _), (3, _)] _ _
 refine CJ_open (fun hd => ?_)
 obtain ⟨P, cP, T, cT, F, cF, A, cA⟩ := hd
 show CJ _ _ _ _ [cellsR B #[.slice P M.pts.length cP, .slice T M.tris.length cT, .slice F M.free.length cF, .slice A M.ats.length cA] _, rowR _ 2 P M.pts.length cP (ptCells M.pts), rowR _ 9 T M.tris.length cT (trCells M.tris), rowR _ 1 F M.free.length cF (Iv M.free), rowR _ 1 A M.ats.length cA (Iv M.ats)] _
 refine CJ_rowSome (A := A) m4 hA (fun gA hgA hcA => ?_)
 subst hgA
 refine CJ_seq ?_
 refine CJ_reg ?_
 refine LJ_y rfl rfl (YJ_assign rfl) ?_
 refine LJ_nil ?_
 refine QJ_then ?_
 refine CJ_seq ?_
 refine CJ_reg ?_
 refine LJ_y rfl rfl (YJ_move rfl) ?_
 refine LJ_y rfl rfl (YJ_move rfl) ?_
 refine LJ_y rfl rfl (YJ_move rfl) ?_
 refine LJ_y rfl rfl (YJ_build1 (cs := [_, _, _]) lay_34 rfl rfl rfl) ?_
 refine LJ_y rfl rfl (YJ_build1 (cs := [_, _, _]) lay_34 rfl rfl rfl) ?_
 refine LJ_y rfl rfl (YJ_buildN (cs := [_, _, _, _, _, _, _, _, _]) layn_37 rfl rfl rfl) ?_
 refine LJ_alloc (cs := #[_, _, _, _, _, _, _, _, _]) rfl rfl zer_37 rfl ?_
 intro b1
 refine LJ_store (cs' := #[_, _, _, _, _, _, _, _, _]) (μ' := [_, _, _, _, _, _]) 0 rfl rfl rfl rfl tyi_37 rfl (Nat.le_of_ble_eq_true rfl) rfl (wr_all rfl) rfl ?_
 refine LJ_nil ?_
 refine QJ_then ?_
 refine CJ_seq ?_
 refine CJ_reg ?_
 refine LJ_y rfl rfl (YJ_move rfl) ?_
 refine LJ_y rfl rfl (YJ_nilCheck rfl) ?_
 refine LJ_y rfl rfl (YJ_fieldOwn rfl fld_57_1 rfl) ?_
 refine LJ_y rfl rfl (YJ_loadL rfl tyi_54 m1 rfl) ?_
 refine LJ_y rfl rfl (YJ_len rfl ulen_54 rfl) ?_
 refine LJ_y rfl rfl (YJ_assign rfl) ?_
 refine LJ_nil ?_
 refine QJ_then ?_
 refine CJ_seq ?_
 refine CJ_seq ?_
 refine CJ_reg ?_
 refine LJ_y rfl rfl (YJ_move rfl) ?_
 refine LJ_y rfl rfl (YJ_nilCheck rfl) ?_
 refine LJ_y rfl rfl (YJ_fieldOwn rfl fld_57_2 rfl) ?_
 refine LJ_y rfl rfl (YJ_loadL rfl tyi_55 m1 rfl) ?_
 refine LJ_y rfl rfl (YJ_len rfl ulen_55 rfl) ?_
 refine LJ_y rfl rfl (YJ_assign rfl) ?_
 refine LJ_nil ?_
 refine QJ_then ?_
 refine CJ_seq ?_
 refine CJ_reg ?_
 refine LJ_y rfl rfl (YJ_move rfl) ?_
 refine LJ_y rfl rfl (YJ_bin rfl rfl rfl) ?_
 refine LJ_nil ?_
 refine QJ_then ?_
 refine CJ_cond rfl (fun h31 => ?_) (fun h31 => ?_)
 ·simp only [decide_eq_true_eq] at h31
  obtain ⟨nn, hk1, hk2, hk3, hk4⟩ := last_of (l := M.free) (by omega)
  obtain ⟨hk5, hk6⟩ := hfr nn hk4
  refine CJ_rowSome (A := F) m4 (by omega) (fun gF hF hcF => ?_)
  subst hF
  refine CJ_rowSome (A := T) m3 (by omega) (fun gT hT hcT => ?_)
  subst hT
  refine CJ_seq ?_
  refine CJ_regM mix (by kernel_rfl) (fun _ _ _ _ _ h => h) [[], [19], [], [], [], []] ?_
  refine BJ_y 0 rfl (by kernel_rfl) (by kernel_rfl) (by kernel_rfl) rfl rfl (YJ_move rfl) ?_
  refine BJ_y 1 rfl (by kernel_rfl) (by kernel_rfl) (by kernel_rfl) rfl rfl (YJ_move rfl) ?_
  refine BJ_y 2 rfl (by kernel_rfl) (by kernel_rfl) (by kernel_rfl) rfl rfl (YJ_nilCheck rfl) ?_
  refine BJ_y 3 rfl (by kernel_rfl) (by kernel_rfl) (by kernel_rfl) rfl rfl (YJ_fieldOwn rfl fld_57_2 rfl) ?_
  refine BJ_l 4 1 rfl (by kernel_rfl) (by kernel_rfl) (by kernel_rfl) rfl (by kernel_rfl) m1 rfl rfl (YJ_loadL rfl tyi_55 m0 rfl) ?_
  refine BJ_y 5 rfl (by kernel_rfl) (by kernel_rfl) (by kernel_rfl) rfl rfl (YJ_move rfl) ?_
  refine BJ_y 6 rfl (by kernel_rfl) (by kernel_rfl) (by kernel_rfl) rfl rfl (YJ_bin rfl rfl (iop_sub (by omega))) ?_
  refine BJ_y 7 rfl (by kernel_rfl) (by kernel_rfl) (by kernel_rfl) rfl rfl (YJ_ixOwn rfl rfl elt_55 (by omega) (by omega)) ?_
  refine BJ_l 8 4 rfl (by kernel_rfl) (by kernel_rfl) (by kernel_rfl) rfl (by kernel_rfl) m4 rfl rfl (YJ_row (.head _) (YJ_loadFactP (A := some ⟨gF, 0, none⟩) (j := M.free.length - 1) rfl (addr_eq (by omega)) tyi_3 (.head _) hk2)) ?_
  refine BJ_y 9 rfl (by kernel_rfl) (by kernel_rfl) (by kernel_rfl) rfl rfl (YJ_move rfl) ?_
  refine BJ_y 10 rfl (by kernel_rfl) (by kernel_rfl) (by kernel_rfl) rfl rfl (YJ_nilCheck rfl) ?_
  refine BJ_y 11 rfl (by kernel_rfl) (by kernel_rfl) (by kernel_rfl) rfl rfl (YJ_fieldOwn rfl fld_57_2 rfl) ?_
  refine BJ_l 12 1 rfl (by kernel_rfl) (by kernel_rfl) (by kernel_rfl) rfl (by kernel_rfl) m1 rfl rfl (YJ_loadL rfl tyi_55 m0 rfl) ?_
  refine BJ_y 13 rfl (by kernel_rfl) (by kernel_rfl) (by kernel_rfl) rfl rfl (YJ_move rfl) ?_
  refine BJ_y 14 rfl (by kernel_rfl) (by kernel_rfl) (by kernel_rfl) rfl rfl (YJ_bin rfl rfl (iop_sub (by omega))) ?_
  refine BJ_y 15 rfl (by kernel_rfl) (by kernel_rfl) (by kernel_rfl) rfl rfl (YJ_sliceH (m := M.free.length - 1) rfl rfl elt_55 (by omega) (by omega)) ?_
  refine BJ_y 16 rfl (by kernel_rfl) (by kernel_rfl) (by kernel_rfl) rfl rfl (YJ_assign rfl) ?_
  refine BJ_y 17 rfl (by kernel_rfl) (by kernel_rfl) (by kernel_rfl) rfl rfl (YJ_nilCheck rfl) ?_
  refine BJ_y 18 rfl (by kernel_rfl) (by kernel_rfl) (by kernel_rfl) rfl rfl (YJ_fieldOwn rfl fld_57_2 rfl) ?_
  refine BJ_store (cs' := #[_, _, _, _]) (μ' := [_, _, _, _, _, _]) 19 1 rfl (by kernel_rfl) rfl rfl rfl rfl tyi_55 rfl (Nat.le_of_ble_eq_true rfl) rfl rfl rfl (And.intro (.inr m0) (And.intro (.inl rfl) (And.intro (.inr m2) (And.intro (.inr m3) (And.intro (.inr m4) (And.intro (.inr m5) (trivial))))))) ?_
  refine BJ_done (by kernel_rfl) ?_
  refine QJ_then ?_
  refine CJ_turnK (k := 4) (r' := rowR 3 1 (some ⟨gF, 0, none⟩) (M.free.length - 1) cF (Iv M.free.dropLast)) rfl (fun w S q => hk3 ▸ rowR.short (by omega) q) ?_
  refine CJ_regD mix (by kernel_rfl) (fun _ _ _ _ _ h => h) (selR [0, 1, 2, 4, 5] _) _ (selR_sub _ _) (fun _ h => h) ?_
  refine AJ_y 0 rfl (by kernel_rfl) (by kernel_rfl) rfl rfl (YJ_move rfl) ?_
  refine AJ_y 1 rfl (by kernel_rfl) (by kernel_rfl) rfl rfl (YJ_nilCheck rfl) ?_
  refine AJ_y 2 rfl (by kernel_rfl) (by kernel_rfl) rfl rfl (YJ_fieldOwn rfl fld_57_1 rfl) ?_
  refine AJ_y 3 rfl (by kernel_rfl) (by kernel_rfl) rfl rfl (YJ_loadL rfl tyi_54 m1 rfl) ?_
  refine AJ_y 4 rfl (by kernel_rfl) (by kernel_rfl) rfl rfl (YJ_move rfl) ?_
  refine AJ_y 5 rfl (by kernel_rfl) (by kernel_rfl) rfl rfl (YJ_loadN (vs := [_, _, _, _, _, _, _, _, _]) rfl tyi_37 m0 rfl rfl) ?_
  refine AJ_y 6 rfl (by kernel_rfl) (by kernel_rfl) rfl rfl (YJ_ixOwn rfl rfl elt_54 (by omega) (by omega)) ?_
  refine AJ_storeRow (off := nn.toNat * 9) (xs' := trCells (M.tris.set nn.toNat (Tr.new a b c))) (μ' := (_ :: _ :: _ :: _ :: _ :: _ :: _)) 7 3 rfl (by kernel_rfl) rfl rfl rfl (addr_eq (by omega)) rfl tyi_37 rfl (by rw [trCells_len]; omega) rfl (row_set (t := Tr.new a b c) (by omega) rfl) (by rw [trCells_len]; omega) rfl (fun _ => AllIn.sub (And.intro m0 (And.intro m1 (And.intro m2 (And.intro m4 (And.intro m5 (trivial))))))) ?_
  refine AJ_done (by kernel_rfl) ?_
  refine QJ_then ?_
  refine CJ_seq ?_
  refine CJ_seq ?_
  refine CJ_reg ?_
  refine LJ_y rfl rfl (YJ_fieldOwn rfl fld_37_0 rfl) ?_
  refine LJ_y rfl rfl (YJ_loadN (vs := [_, _, _]) rfl tyi_34 m0 rfl rfl) ?_
  refine LJ_y rfl rfl (YJ_move rfl) ?_
  refine LJ_nil ?_
  refine QJ_then ?_
  refine CJ_block ?_
  refine CJ_loopN 4 ?_
  refine CN_succ ?_
  refine CJ_seq ?_
  refine CJ_reg ?_
  refine LJ_y rfl rfl (YJ_bin rfl rfl rfl) ?_
  refine LJ_nil ?_
  refine QJ_then ?_
  refine CJ_seq ?_
  refine CJ_condT rfl ?_
  refine CJ_skip ?_
  refine QJ_then ?_
  refine CJ_seq ?_
  refine CJ_block ?_
  refine CJ_seq ?_
  refine CJ_reg ?_
  refine LJ_y rfl rfl (YJ_index1 rfl rfl arrt_34 tyi_3 (by omega) (by omega) rfl) ?_
  refine LJ_y rfl rfl (YJ_assign rfl) ?_
  refine LJ_nil ?_
  refine QJ_then ?_
  refine CJ_seq ?_
  refine CJ_reg ?_
  refine LJ_y rfl rfl (YJ_move rfl) ?_
  refine LJ_y rfl rfl (YJ_bin rfl rfl rfl) ?_
  refine LJ_nil ?_
  refine QJ_then ?_
  refine CJ_cond rfl (fun h73 => ?_) (fun h73 => ?_)
  ·simp only [decide_eq_true_eq] at h73
   refine CJ_reg ?_
   refine LJ_y rfl rfl (YJ_move rfl) ?_
   refine LJ_y rfl rfl (YJ_nilCheck rfl) ?_
   refine LJ_y rfl rfl (YJ_fieldOwn rfl fld_57_3 rfl) ?_
   refine LJ_y rfl rfl (YJ_loadL rfl tyi_55 m1 rfl) ?_
   refine LJ_y rfl rfl (YJ_move rfl) ?_
   refine LJ_y rfl rfl (YJ_move rfl) ?_
   refine LJ_val (v := .int .i64 nn) (by first | rfl | rw [hnn]) ?_
   refine LJ_y rfl rfl (YJ_ixOwn rfl rfl elt_55 (by omega) (by omega)) ?_
   refine LJ_storeRow (off := a.toNat) (xs' := Iv (setAt M.ats a nn)) (μ' := (_ :: _ :: _ :: _ :: _ :: _ :: _)) 5 rfl rfl rfl (addr_eq (by omega)) rfl tyi_3 rfl (by simp only [Iv_len, setAt_len]; omega) rfl (Iv_setAt (by omega) (by first | omega | (simp only [setAt_len]; omega)) rfl) (by simp only [Iv_len, setAt_len]; omega) rfl ?_
   refine LJ_nil ?_
   refine QJ_in_normal ?_
   refine QJ_then ?_
   refine CJ_reg ?_
   refine LJ_y rfl rfl (YJ_bin rfl rfl (iop_add (by omega))) ?_
   refine LJ_y rfl rfl (YJ_move rfl) ?_
   refine LJ_nil ?_
   refine QJ_thenN ?_
   refine CN_succ ?_
   refine CJ_seq ?_
   refine CJ_reg ?_
   refine LJ_y rfl rfl (YJ_bin rfl rfl rfl) ?_
   refine LJ_nil ?_
   refine QJ_then ?_
   refine CJ_seq ?_
   refine CJ_condT rfl ?_
   refine CJ_skip ?_
   refine QJ_then ?_
   refine CJ_seq ?_
   refine CJ_block ?_
   refine CJ_seq ?_
   refine CJ_reg ?_
   refine LJ_y rfl rfl (YJ_index1 rfl rfl arrt_34 tyi_3 (by omega) (by omega) rfl) ?_
   refine LJ_y rfl rfl (YJ_assign rfl) ?_
   refine LJ_nil ?_
   refine QJ_then ?_
   refine CJ_seq ?_
   refine CJ_reg ?_
   refine LJ_y rfl rfl (YJ_move rfl) ?_
   refine LJ_y rfl rfl (YJ_bin rfl rfl rfl) ?_
   refine LJ_nil ?_
   refine QJ_then ?_
   refine CJ_cond rfl (fun h73 => ?_) (fun h73 => ?_)
   ·simp only [decide_eq_true_eq] at h73
    refine CJ_reg ?_
    refine LJ_y rfl rfl (YJ_move rfl) ?_
    refine LJ_y rfl rfl (YJ_nilCheck rfl) ?_
    refine LJ_y rfl rfl (YJ_fieldOwn rfl fld_57_3 rfl) ?_
    refine LJ_y rfl rfl (YJ_loadL rfl tyi_55 m1 rfl) ?_
    refine LJ_y rfl rfl (YJ_move rfl) ?_
    refine LJ_y rfl rfl (YJ_move rfl) ?_
    refine LJ_val (v := .int .i64 nn) (by first | rfl | rw [hnn]) ?_
    refine LJ_y rfl rfl (YJ_ixOwn rfl rfl elt_55 (by omega) (by omega)) ?_
    refine LJ_storeRow (off := b.toNat) (xs' := Iv (setAt (setAt M.ats a nn) b nn)) (μ' := (_ :: _ :: _ :: _ :: _ :: _ :: _)) 5 rfl rfl rfl (addr_eq (by omega)) rfl tyi_3 rfl (by simp only [Iv_len, setAt_len]; omega) rfl (Iv_setAt (by omega) (by first | omega | (simp only [setAt_len]; omega)) rfl) (by simp only [Iv_len, setAt_len]; omega) rfl ?_
    refine LJ_nil ?_
    refine QJ_in_normal ?_
    refine QJ_then ?_
    refine CJ_reg ?_
    refine LJ_y rfl rfl (YJ_bin rfl rfl (iop_add (by omega))) ?_
    refine LJ_y rfl rfl (YJ_move rfl) ?_
    refine LJ_nil ?_
    refine QJ_thenN ?_
    refine CN_succ ?_
    refine CJ_seq ?_
    refine CJ_reg ?_
    refine LJ_y rfl rfl (YJ_bin rfl rfl rfl) ?_
    refine LJ_nil ?_
    refine QJ_then ?_
    refine CJ_seq ?_
    refine CJ_condT rfl ?_
    refine CJ_skip ?_
    refine QJ_then ?_
    refine CJ_seq ?_
    refine CJ_block ?_
    refine CJ_seq ?_
    refine CJ_reg ?_
    refine LJ_y rfl rfl (YJ_index1 rfl rfl arrt_34 tyi_3 (by omega) (by omega) rfl) ?_
    refine LJ_y rfl rfl (YJ_assign rfl) ?_
    refine LJ_nil ?_
    refine QJ_then ?_
    refine CJ_seq ?_
    refine CJ_reg ?_
    refine LJ_y rfl rfl (YJ_move rfl) ?_
    refine LJ_y rfl rfl (YJ_bin rfl rfl rfl) ?_
    refine LJ_nil ?_
    refine QJ_then ?_
    refine CJ_cond rfl (fun h73 => ?_) (fun h73 => ?_)
    ·simp only [decide_eq_true_eq] at h73
     refine CJ_reg ?_
     refine LJ_y rfl rfl (YJ_move rfl) ?_
     refine LJ_y rfl rfl (YJ_nilCheck rfl) ?_
     refine LJ_y rfl rfl (YJ_fieldOwn rfl fld_57_3 rfl) ?_
     refine LJ_y rfl rfl (YJ_loadL rfl tyi_55 m1 rfl) ?_
     refine LJ_y rfl rfl (YJ_move rfl) ?_
     refine LJ_y rfl rfl (YJ_move rfl) ?_
     refine LJ_val (v := .int .i64 nn) (by first | rfl | rw [hnn]) ?_
     refine LJ_y rfl rfl (YJ_ixOwn rfl rfl elt_55 (by omega) (by omega)) ?_
     refine LJ_storeRow (off := c.toNat) (xs' := Iv (setAt (setAt (setAt M.ats a nn) b nn) c nn)) (μ' := (_ :: _ :: _ :: _ :: _ :: _ :: _)) 5 rfl rfl rfl (addr_eq (by omega)) rfl tyi_3 rfl (by simp only [Iv_len, setAt_len]; omega) rfl (Iv_setAt (by omega) (by first | omega | (simp only [setAt_len]; omega)) rfl) (by simp only [Iv_len, setAt_len]; omega) rfl ?_
     refine LJ_nil ?_
     refine QJ_in_normal ?_
     refine QJ_then ?_
     refine CJ_reg ?_
     refine LJ_y rfl rfl (YJ_bin rfl rfl (iop_add (by omega))) ?_
     refine LJ_y rfl rfl (YJ_move rfl) ?_
     refine LJ_nil ?_
     refine QJ_thenN ?_
     refine CN_succ ?_
     refine CJ_seq ?_
     refine CJ_reg ?_
     refine LJ_y rfl rfl (YJ_bin rfl rfl rfl) ?_
     refine LJ_nil ?_
     refine QJ_then ?_
     refine CJ_seq ?_
     refine CJ_condF rfl ?_
     refine CJ_exit ?_
     refine QJ_then_exit ?_
     refine QJ_then_exit ?_
     refine QJ_in_exit ?_
     refine QJ_then ?_
     refine CJ_seq ?_
     refine CJ_reg ?_
     refine LJ_y rfl rfl (YJ_move rfl) ?_
     refine LJ_y rfl rfl (YJ_assign rfl) ?_
     refine LJ_nil ?_
     refine QJ_then ?_
     refine CJ_ret ?_
     refine QJ_closeMesh (M.make a b c) (permI [1, 1, 1, 1, 1] rfl) ⟨rfl, rfl⟩ ⟨by simp [MD.make, hk1], by simp [MD.make, hk1]⟩ ⟨by simp [MD.make], rfl⟩ ⟨by simp [MD.make, setAt_len], by simp [MD.make, MD.nextN, hk1]⟩ ?_
     exact QJ_fin (.inl rfl) (μ' := [_]) (μr := [_]) (φ' := []) (res_tmp rfl rfl) (List.Perm.refl _) (fun _ h => nomatch h) ⟨congrArg (Value.int .i64) (by simp [MD.nextN, hk1]), rfl, rfl⟩
    ·simp only [decide_eq_false_iff_not] at h73
     refine CJ_turnK (k := 5) (r' := rowR 3 1 (some ⟨gA, 0, none⟩) M.ats.length cA (Iv (setAt (setAt (setAt M.ats a nn) b nn) c nn))) rfl (fun w S q => by rw [show setAt (setAt (setAt M.ats a nn) b nn) c nn = setAt (setAt M.ats a nn) b nn from if_neg (by omega)]; exact q) ?_
     refine CJ_skip ?_
     refine QJ_in_normal ?_
     refine QJ_then ?_
     refine CJ_reg ?_
     refine LJ_y rfl rfl (YJ_bin rfl rfl (iop_add (by omega))) ?_
     refine LJ_y rfl rfl (YJ_move rfl) ?_
     refine LJ_nil ?_
     refine QJ_thenN ?_
     refine CN_succ ?_
     refine CJ_seq ?_
     refine CJ_reg ?_
     refine LJ_y rfl rfl (YJ_bin rfl rfl rfl) ?_
     refine LJ_nil ?_
     refine QJ_then ?_
     refine CJ_seq ?_
     refine CJ_condF rfl ?_
     refine CJ_exit ?_
     refine QJ_then_exit ?_
     refine QJ_then_exit ?_
     refine QJ_in_exit ?_
     refine QJ_then ?_
     refine CJ_seq ?_
     refine CJ_reg ?_
     refine LJ_y rfl rfl (YJ_move rfl) ?_
     refine LJ_y rfl rfl (YJ_assign rfl) ?_
     refine LJ_nil ?_
     refine QJ_then ?_
     refine CJ_ret ?_
     refine QJ_closeMesh (M.make a b c) (permI [1, 1, 1, 1, 1] rfl) ⟨rfl, rfl⟩ ⟨by simp [MD.make, hk1], by simp [MD.make, hk1]⟩ ⟨by simp [MD.make], rfl⟩ ⟨by simp [MD.make, setAt_len], by simp [MD.make, MD.nextN, hk1]⟩ ?_
     exact QJ_fin (.inl rfl) (μ' := [_]) (μr := [_]) (φ' := []) (res_tmp rfl rfl) (List.Perm.refl _) (fun _ h => nomatch h) ⟨congrArg (Value.int .i64) (by simp [MD.nextN, hk1]), rfl, rfl⟩
   ·simp only [decide_eq_false_iff_not] at h73
    refine CJ_turnK (k := 5) (r' := rowR 3 1 (some ⟨gA, 0, none⟩) M.ats.length cA (Iv (setAt (setAt M.ats a nn) b nn))) rfl (fun w S q => by rw [show setAt (setAt M.ats a nn) b nn = setAt M.ats a nn from if_neg (by omega)]; exact q) ?_
    refine CJ_skip ?_
    refine QJ_in_normal ?_
    refine QJ_then ?_
    refine CJ_reg ?_
    refine LJ_y rfl rfl (YJ_bin rfl rfl (iop_add (by omega))) ?_
    refine LJ_y rfl rfl (YJ_move rfl) ?_
    refine LJ_nil ?_
    refine QJ_thenN ?_
    refine CN_succ ?_
    refine CJ_seq ?_
    refine CJ_reg ?_
    refine LJ_y rfl rfl (YJ_bin rfl rfl rfl) ?_
    refine LJ_nil ?_
    refine QJ_then ?_
    refine CJ_seq ?_
    refine CJ_condT rfl ?_
    refine CJ_skip ?_
    refine QJ_then ?_
    refine CJ_seq ?_
    refine CJ_block ?_
    refine CJ_seq ?_
    refine CJ_reg ?_
    refine LJ_y rfl rfl (YJ_index1 rfl rfl arrt_34 tyi_3 (by omega) (by omega) rfl) ?_
    refine LJ_y rfl rfl (YJ_assign rfl) ?_
    refine LJ_nil ?_
    refine QJ_then ?_
    refine CJ_seq ?_
    refine CJ_reg ?_
    refine LJ_y rfl rfl (YJ_move rfl) ?_
    refine LJ_y rfl rfl (YJ_bin rfl rfl rfl) ?_
    refine LJ_nil ?_
    refine QJ_then ?_
    refine CJ_cond rfl (fun h73 => ?_) (fun h73 => ?_)
    ·simp only [decide_eq_true_eq] at h73
     refine CJ_reg ?_
     refine LJ_y rfl rfl (YJ_move rfl) ?_
     refine LJ_y rfl rfl (YJ_nilCheck rfl) ?_
     refine LJ_y rfl rfl (YJ_fieldOwn rfl fld_57_3 rfl) ?_
     refine LJ_y rfl rfl (YJ_loadL rfl tyi_55 m1 rfl) ?_
     refine LJ_y rfl rfl (YJ_move rfl) ?_
     refine LJ_y rfl rfl (YJ_move rfl) ?_
     refine LJ_val (v := .int .i64 nn) (by first | rfl | rw [hnn]) ?_
     refine LJ_y rfl rfl (YJ_ixOwn rfl rfl elt_55 (by omega) (by omega)) ?_
     refine LJ_storeRow (off := c.toNat) (xs' := Iv (setAt (setAt (setAt M.ats a nn) b nn) c nn)) (μ' := (_ :: _ :: _ :: _ :: _ :: _ :: _)) 5 rfl rfl rfl (addr_eq (by omega)) rfl tyi_3 rfl (by simp only [Iv_len, setAt_len]; omega) rfl (Iv_setAt (by omega) (by first | omega | (simp only [setAt_len]; omega)) rfl) (by simp only [Iv_len, setAt_len]; omega) rfl ?_
     refine LJ_nil ?_
     refine QJ_in_normal ?_
     refine QJ_then ?_
     refine CJ_reg ?_
     refine LJ_y rfl rfl (YJ_bin rfl rfl (iop_add (by omega))) ?_
     refine LJ_y rfl rfl (YJ_move rfl) ?_
     refine LJ_nil ?_
     refine QJ_thenN ?_
     refine CN_succ ?_
     refine CJ_seq ?_
     refine CJ_reg ?_
     refine LJ_y rfl rfl (YJ_bin rfl rfl rfl) ?_
     refine LJ_nil ?_
     refine QJ_then ?_
     refine CJ_seq ?_
     refine CJ_condF rfl ?_
     refine CJ_exit ?_
     refine QJ_then_exit ?_
     refine QJ_then_exit ?_
     refine QJ_in_exit ?_
     refine QJ_then ?_
     refine CJ_seq ?_
     refine CJ_reg ?_
     refine LJ_y rfl rfl (YJ_move rfl) ?_
     refine LJ_y rfl rfl (YJ_assign rfl) ?_
     refine LJ_nil ?_
     refine QJ_then ?_
     refine CJ_ret ?_
     refine QJ_closeMesh (M.make a b c) (permI [1, 1, 1, 1, 1] rfl) ⟨rfl, rfl⟩ ⟨by simp [MD.make, hk1], by simp [MD.make, hk1]⟩ ⟨by simp [MD.make], rfl⟩ ⟨by simp [MD.make, setAt_len], by simp [MD.make, MD.nextN, hk1]⟩ ?_
     exact QJ_fin (.inl rfl) (μ' := [_]) (μr := [_]) (φ' := []) (res_tmp rfl rfl) (List.Perm.refl _) (fun _ h => nomatch h) ⟨congrArg (Value.int .i64) (by simp [MD.nextN, hk1]), rfl, rfl⟩
    ·simp only [decide_eq_false_iff_not] at h73
     refine CJ_turnK (k := 5) (r' := rowR 3 1 (some ⟨gA, 0, none⟩) M.ats.length cA (Iv (setAt (setAt (setAt M.ats a nn) b nn) c nn))) rfl (fun w S q => by rw [show setAt (setAt (setAt M.ats a nn) b nn) c nn = setAt (setAt M.ats a nn) b nn from if_neg (by omega)]; exact q) ?_
     refine CJ_skip ?_
     refine QJ_in_normal ?_
     refine QJ_then ?_
     refine CJ_reg ?_
     refine LJ_y rfl rfl (YJ_bin rfl rfl (iop_add (by omega))) ?_
     refine LJ_y rfl rfl (YJ_move rfl) ?_
     refine LJ_nil ?_
     refine QJ_thenN ?_
     refine CN_succ ?_
     refine CJ_seq ?_
     refine CJ_reg ?_
     refine LJ_y rfl rfl (YJ_bin rfl rfl rfl) ?_
     refine LJ_nil ?_
     refine QJ_then ?_
     refine CJ_seq ?_
     refine CJ_condF rfl ?_
     refine CJ_exit ?_
     refine QJ_then_exit ?_
     refine QJ_then_exit ?_
     refine QJ_in_exit ?_
     refine QJ_then ?_
     refine CJ_seq ?_
     refine CJ_reg ?_
     refine LJ_y rfl rfl (YJ_move rfl) ?_
     refine LJ_y rfl rfl (YJ_assign rfl) ?_
     refine LJ_nil ?_
     refine QJ_then ?_
     refine CJ_ret ?_
     refine QJ_closeMesh (M.make a b c) (permI [1, 1, 1, 1, 1] rfl) ⟨rfl, rfl⟩ ⟨by simp [MD.make, hk1], by simp [MD.make, hk1]⟩ ⟨by simp [MD.make], rfl⟩ ⟨by simp [MD.make, setAt_len], by simp [MD.make, MD.nextN, hk1]⟩ ?_
     exact QJ_fin (.inl rfl) (μ' := [_]) (μr := [_]) (φ' := []) (res_tmp rfl rfl) (List.Perm.refl _) (fun _ h => nomatch h) ⟨congrArg (Value.int .i64) (by simp [MD.nextN, hk1]), rfl, rfl⟩
  ·simp only [decide_eq_false_iff_not] at h73
   refine CJ_turnK (k := 5) (r' := rowR 3 1 (some ⟨gA, 0, none⟩) M.ats.length cA (Iv (setAt M.ats a nn))) rfl (fun w S q => by rw [show setAt M.ats a nn = M.ats from if_neg (by omega)]; exact q) ?_
   refine CJ_skip ?_
   refine QJ_in_normal ?_
   refine QJ_then ?_
   refine CJ_reg ?_
   refine LJ_y rfl rfl (YJ_bin rfl rfl (iop_add (by omega))) ?_
   refine LJ_y rfl rfl (YJ_move rfl) ?_
   refine LJ_nil ?_
   refine QJ_thenN ?_
   refine CN_succ ?_
   refine CJ_seq ?_
   refine CJ_reg ?_
   refine LJ_y rfl rfl (YJ_bin rfl rfl rfl) ?_
   refine LJ_nil ?_
   refine QJ_then ?_
   refine CJ_seq ?_
   refine CJ_condT rfl ?_
   refine CJ_skip ?_
   refine QJ_then ?_
   refine CJ_seq ?_
   refine CJ_block ?_
   refine CJ_seq ?_
   refine CJ_reg ?_
   refine LJ_y rfl rfl (YJ_index1 rfl rfl arrt_34 tyi_3 (by omega) (by omega) rfl) ?_
   refine LJ_y rfl rfl (YJ_assign rfl) ?_
   refine LJ_nil ?_
   refine QJ_then ?_
   refine CJ_seq ?_
   refine CJ_reg ?_
   refine LJ_y rfl rfl (YJ_move rfl) ?_
   refine LJ_y rfl rfl (YJ_bin rfl rfl rfl) ?_
   refine LJ_nil ?_
   refine QJ_then ?_
   refine CJ_cond rfl (fun h73 => ?_) (fun h73 => ?_)
   ·simp only [decide_eq_true_eq] at h73
    refine CJ_reg ?_
    refine LJ_y rfl rfl (YJ_move rfl) ?_
    refine LJ_y rfl rfl (YJ_nilCheck rfl) ?_
    refine LJ_y rfl rfl (YJ_fieldOwn rfl fld_57_3 rfl) ?_
    refine LJ_y rfl rfl (YJ_loadL rfl tyi_55 m1 rfl) ?_
    refine LJ_y rfl rfl (YJ_move rfl) ?_
    refine LJ_y rfl rfl (YJ_move rfl) ?_
    refine LJ_val (v := .int .i64 nn) (by first | rfl | rw [hnn]) ?_
    refine LJ_y rfl rfl (YJ_ixOwn rfl rfl elt_55 (by omega) (by omega)) ?_
    refine LJ_storeRow (off := b.toNat) (xs' := Iv (setAt (setAt M.ats a nn) b nn)) (μ' := (_ :: _ :: _ :: _ :: _ :: _ :: _)) 5 rfl rfl rfl (addr_eq (by omega)) rfl tyi_3 rfl (by simp only [Iv_len, setAt_len]; omega) rfl (Iv_setAt (by omega) (by first | omega | (simp only [setAt_len]; omega)) rfl) (by simp only [Iv_len, setAt_len]; omega) rfl ?_
    refine LJ_nil ?_
    refine QJ_in_normal ?_
    refine QJ_then ?_
    refine CJ_reg ?_
    refine LJ_y rfl rfl (YJ_bin rfl rfl (iop_add (by omega))) ?_
    refine LJ_y rfl rfl (YJ_move rfl) ?_
    refine LJ_nil ?_
    refine QJ_thenN ?_
    refine CN_succ ?_
    refine CJ_seq ?_
    refine CJ_reg ?_
    refine LJ_y rfl rfl (YJ_bin rfl rfl rfl) ?_
    refine LJ_nil ?_
    refine QJ_then ?_
    refine CJ_seq ?_
    refine CJ_condT rfl ?_
    refine CJ_skip ?_
    refine QJ_then ?_
    refine CJ_seq ?_
    refine CJ_block ?_
    refine CJ_seq ?_
    refine CJ_reg ?_
    refine LJ_y rfl rfl (YJ_index1 rfl rfl arrt_34 tyi_3 (by omega) (by omega) rfl) ?_
    refine LJ_y rfl rfl (YJ_assign rfl) ?_
    refine LJ_nil ?_
    refine QJ_then ?_
    refine CJ_seq ?_
    refine CJ_reg ?_
    refine LJ_y rfl rfl (YJ_move rfl) ?_
    refine LJ_y rfl rfl (YJ_bin rfl rfl rfl) ?_
    refine LJ_nil ?_
    refine QJ_then ?_
    refine CJ_cond rfl (fun h73 => ?_) (fun h73 => ?_)
    ·simp only [decide_eq_true_eq] at h73
     refine CJ_reg ?_
     refine LJ_y rfl rfl (YJ_move rfl) ?_
     refine LJ_y rfl rfl (YJ_nilCheck rfl) ?_
     refine LJ_y rfl rfl (YJ_fieldOwn rfl fld_57_3 rfl) ?_
     refine LJ_y rfl rfl (YJ_loadL rfl tyi_55 m1 rfl) ?_
     refine LJ_y rfl rfl (YJ_move rfl) ?_
     refine LJ_y rfl rfl (YJ_move rfl) ?_
     refine LJ_val (v := .int .i64 nn) (by first | rfl | rw [hnn]) ?_
     refine LJ_y rfl rfl (YJ_ixOwn rfl rfl elt_55 (by omega) (by omega)) ?_
     refine LJ_storeRow (off := c.toNat) (xs' := Iv (setAt (setAt (setAt M.ats a nn) b nn) c nn)) (μ' := (_ :: _ :: _ :: _ :: _ :: _ :: _)) 5 rfl rfl rfl (addr_eq (by omega)) rfl tyi_3 rfl (by simp only [Iv_len, setAt_len]; omega) rfl (Iv_setAt (by omega) (by first | omega | (simp only [setAt_len]; omega)) rfl) (by simp only [Iv_len, setAt_len]; omega) rfl ?_
     refine LJ_nil ?_
     refine QJ_in_normal ?_
     refine QJ_then ?_
     refine CJ_reg ?_
     refine LJ_y rfl rfl (YJ_bin rfl rfl (iop_add (by omega))) ?_
     refine LJ_y rfl rfl (YJ_move rfl) ?_
     refine LJ_nil ?_
     refine QJ_thenN ?_
     refine CN_succ ?_
     refine CJ_seq ?_
     refine CJ_reg ?_
     refine LJ_y rfl rfl (YJ_bin rfl rfl rfl) ?_
     refine LJ_nil ?_
     refine QJ_then ?_
     refine CJ_seq ?_
     refine CJ_condF rfl ?_
     refine CJ_exit ?_
     refine QJ_then_exit ?_
     refine QJ_then_exit ?_
     refine QJ_in_exit ?_
     refine QJ_then ?_
     refine CJ_seq ?_
     refine CJ_reg ?_
     refine LJ_y rfl rfl (YJ_move rfl) ?_
     refine LJ_y rfl rfl (YJ_assign rfl) ?_
     refine LJ_nil ?_
     refine QJ_then ?_
     refine CJ_ret ?_
     refine QJ_closeMesh (M.make a b c) (permI [1, 1, 1, 1, 1] rfl) ⟨rfl, rfl⟩ ⟨by simp [MD.make, hk1], by simp [MD.make, hk1]⟩ ⟨by simp [MD.make], rfl⟩ ⟨by simp [MD.make, setAt_len], by simp [MD.make, MD.nextN, hk1]⟩ ?_
     exact QJ_fin (.inl rfl) (μ' := [_]) (μr := [_]) (φ' := []) (res_tmp rfl rfl) (List.Perm.refl _) (fun _ h => nomatch h) ⟨congrArg (Value.int .i64) (by simp [MD.nextN, hk1]), rfl, rfl⟩
    ·simp only [decide_eq_false_iff_not] at h73
     refine CJ_turnK (k := 5) (r' := rowR 3 1 (some ⟨gA, 0, none⟩) M.ats.length cA (Iv (setAt (setAt (setAt M.ats a nn) b nn) c nn))) rfl (fun w S q => by rw [show setAt (setAt (setAt M.ats a nn) b nn) c nn = setAt (setAt M.ats a nn) b nn from if_neg (by omega)]; exact q) ?_
     refine CJ_skip ?_
     refine QJ_in_normal ?_
     refine QJ_then ?_
     refine CJ_reg ?_
     refine LJ_y rfl rfl (YJ_bin rfl rfl (iop_add (by omega))) ?_
     refine LJ_y rfl rfl (YJ_move rfl) ?_
     refine LJ_nil ?_
     refine QJ_thenN ?_
     refine CN_succ ?_
     refine CJ_seq ?_
     refine CJ_reg ?_
     refine LJ_y rfl rfl (YJ_bin rfl rfl rfl) ?_
     refine LJ_nil ?_
     refine QJ_then ?_
     refine CJ_seq ?_
     refine CJ_condF rfl ?_
     refine CJ_exit ?_
     refine QJ_then_exit ?_
     refine QJ_then_exit ?_
     refine QJ_in_exit ?_
     refine QJ_then ?_
     refine CJ_seq ?_
     refine CJ_reg ?_
     refine LJ_y rfl rfl (YJ_move rfl) ?_
     refine LJ_y rfl rfl (YJ_assign rfl) ?_
     refine LJ_nil ?_
     refine QJ_then ?_
     refine CJ_ret ?_
     refine QJ_closeMesh (M.make a b c) (permI [1, 1, 1, 1, 1] rfl) ⟨rfl, rfl⟩ ⟨by simp [MD.make, hk1], by simp [MD.make, hk1]⟩ ⟨by simp [MD.make], rfl⟩ ⟨by simp [MD.make, setAt_len], by simp [MD.make, MD.nextN, hk1]⟩ ?_
     exact QJ_fin (.inl rfl) (μ' := [_]) (μr := [_]) (φ' := []) (res_tmp rfl rfl) (List.Perm.refl _) (fun _ h => nomatch h) ⟨congrArg (Value.int .i64) (by simp [MD.nextN, hk1]), rfl, rfl⟩
   ·simp only [decide_eq_false_iff_not] at h73
    refine CJ_turnK (k := 5) (r' := rowR 3 1 (some ⟨gA, 0, none⟩) M.ats.length cA (Iv (setAt (setAt M.ats a nn) b nn))) rfl (fun w S q => by rw [show setAt (setAt M.ats a nn) b nn = setAt M.ats a nn from if_neg (by omega)]; exact q) ?_
    refine CJ_skip ?_
    refine QJ_in_normal ?_
    refine QJ_then ?_
    refine CJ_reg ?_
    refine LJ_y rfl rfl (YJ_bin rfl rfl (iop_add (by omega))) ?_
    refine LJ_y rfl rfl (YJ_move rfl) ?_
    refine LJ_nil ?_
    refine QJ_thenN ?_
    refine CN_succ ?_
    refine CJ_seq ?_
    refine CJ_reg ?_
    refine LJ_y rfl rfl (YJ_bin rfl rfl rfl) ?_
    refine LJ_nil ?_
    refine QJ_then ?_
    refine CJ_seq ?_
    refine CJ_condT rfl ?_
    refine CJ_skip ?_
    refine QJ_then ?_
    refine CJ_seq ?_
    refine CJ_block ?_
    refine CJ_seq ?_
    refine CJ_reg ?_
    refine LJ_y rfl rfl (YJ_index1 rfl rfl arrt_34 tyi_3 (by omega) (by omega) rfl) ?_
    refine LJ_y rfl rfl (YJ_assign rfl) ?_
    refine LJ_nil ?_
    refine QJ_then ?_
    refine CJ_seq ?_
    refine CJ_reg ?_
    refine LJ_y rfl rfl (YJ_move rfl) ?_
    refine LJ_y rfl rfl (YJ_bin rfl rfl rfl) ?_
    refine LJ_nil ?_
    refine QJ_then ?_
    refine CJ_cond rfl (fun h73 => ?_) (fun h73 => ?_)
    ·simp only [decide_eq_true_eq] at h73
     refine CJ_reg ?_
     refine LJ_y rfl rfl (YJ_move rfl) ?_
     refine LJ_y rfl rfl (YJ_nilCheck rfl) ?_
     refine LJ_y rfl rfl (YJ_fieldOwn rfl fld_57_3 rfl) ?_
     refine LJ_y rfl rfl (YJ_loadL rfl tyi_55 m1 rfl) ?_
     refine LJ_y rfl rfl (YJ_move rfl) ?_
     refine LJ_y rfl rfl (YJ_move rfl) ?_
     refine LJ_val (v := .int .i64 nn) (by first | rfl | rw [hnn]) ?_
     refine LJ_y rfl rfl (YJ_ixOwn rfl rfl elt_55 (by omega) (by omega)) ?_
     refine LJ_storeRow (off := c.toNat) (xs' := Iv (setAt (setAt (setAt M.ats a nn) b nn) c nn)) (μ' := (_ :: _ :: _ :: _ :: _ :: _ :: _)) 5 rfl rfl rfl (addr_eq (by omega)) rfl tyi_3 rfl (by simp only [Iv_len, setAt_len]; omega) rfl (Iv_setAt (by omega) (by first | omega | (simp only [setAt_len]; omega)) rfl) (by simp only [Iv_len, setAt_len]; omega) rfl ?_
     refine LJ_nil ?_
     refine QJ_in_normal ?_
     refine QJ_then ?_
     refine CJ_reg ?_
     refine LJ_y rfl rfl (YJ_bin rfl rfl (iop_add (by omega))) ?_
     refine LJ_y rfl rfl (YJ_move rfl) ?_
     refine LJ_nil ?_
     refine QJ_thenN ?_
     refine CN_succ ?_
     refine CJ_seq ?_
     refine CJ_reg ?_
     refine LJ_y rfl rfl (YJ_bin rfl rfl rfl) ?_
     refine LJ_nil ?_
     refine QJ_then ?_
     refine CJ_seq ?_
     refine CJ_condF rfl ?_
     refine CJ_exit ?_
     refine QJ_then_exit ?_
     refine QJ_then_exit ?_
     refine QJ_in_exit ?_
     refine QJ_then ?_
     refine CJ_seq ?_
     refine CJ_reg ?_
     refine LJ_y rfl rfl (YJ_move rfl) ?_
     refine LJ_y rfl rfl (YJ_assign rfl) ?_
     refine LJ_nil ?_
     refine QJ_then ?_
     refine CJ_ret ?_
     refine QJ_closeMesh (M.make a b c) (permI [1, 1, 1, 1, 1] rfl) ⟨rfl, rfl⟩ ⟨by simp [MD.make, hk1], by simp [MD.make, hk1]⟩ ⟨by simp [MD.make], rfl⟩ ⟨by simp [MD.make, setAt_len], by simp [MD.make, MD.nextN, hk1]⟩ ?_
     exact QJ_fin (.inl rfl) (μ' := [_]) (μr := [_]) (φ' := []) (res_tmp rfl rfl) (List.Perm.refl _) (fun _ h => nomatch h) ⟨congrArg (Value.int .i64) (by simp [MD.nextN, hk1]), rfl, rfl⟩
    ·simp only [decide_eq_false_iff_not] at h73
     refine CJ_turnK (k := 5) (r' := rowR 3 1 (some ⟨gA, 0, none⟩) M.ats.length cA (Iv (setAt (setAt (setAt M.ats a nn) b nn) c nn))) rfl (fun w S q => by rw [show setAt (setAt (setAt M.ats a nn) b nn) c nn = setAt (setAt M.ats a nn) b nn from if_neg (by omega)]; exact q) ?_
     refine CJ_skip ?_
     refine QJ_in_normal ?_
     refine QJ_then ?_
     refine CJ_reg ?_
     refine LJ_y rfl rfl (YJ_bin rfl rfl (iop_add (by omega))) ?_
     refine LJ_y rfl rfl (YJ_move rfl) ?_
     refine LJ_nil ?_
     refine QJ_thenN ?_
     refine CN_succ ?_
     refine CJ_seq ?_
     refine CJ_reg ?_
     refine LJ_y rfl rfl (YJ_bin rfl rfl rfl) ?_
     refine LJ_nil ?_
     refine QJ_then ?_
     refine CJ_seq ?_
     refine CJ_condF rfl ?_
     refine CJ_exit ?_
     refine QJ_then_exit ?_
     refine QJ_then_exit ?_
     refine QJ_in_exit ?_
     refine QJ_then ?_
     refine CJ_seq ?_
     refine CJ_reg ?_
     refine LJ_y rfl rfl (YJ_move rfl) ?_
     refine LJ_y rfl rfl (YJ_assign rfl) ?_
     refine LJ_nil ?_
     refine QJ_then ?_
     refine CJ_ret ?_
     refine QJ_closeMesh (M.make a b c) (permI [1, 1, 1, 1, 1] rfl) ⟨rfl, rfl⟩ ⟨by simp [MD.make, hk1], by simp [MD.make, hk1]⟩ ⟨by simp [MD.make], rfl⟩ ⟨by simp [MD.make, setAt_len], by simp [MD.make, MD.nextN, hk1]⟩ ?_
     exact QJ_fin (.inl rfl) (μ' := [_]) (μr := [_]) (φ' := []) (res_tmp rfl rfl) (List.Perm.refl _) (fun _ h => nomatch h) ⟨congrArg (Value.int .i64) (by simp [MD.nextN, hk1]), rfl, rfl⟩
 ·simp only [decide_eq_false_iff_not] at h31
  have hf0 : M.free = [] := List.eq_nil_of_length_eq_zero (by omega)
  obtain ⟨nn, hnn⟩ : ∃ x : Int, (M.tris.length : Int) = x := ⟨_, rfl⟩
  refine CJ_regM mix (by kernel_rfl) (fun _ _ _ _ _ h => h) [[], [10], [], [7, 10], [], []] ?_
  refine BJ_y 0 rfl (by kernel_rfl) (by kernel_rfl) (by kernel_rfl) rfl rfl (YJ_move rfl) ?_
  refine BJ_y 1 rfl (by kernel_rfl) (by kernel_rfl) (by kernel_rfl) rfl rfl (YJ_move rfl) ?_
  refine BJ_y 2 rfl (by kernel_rfl) (by kernel_rfl) (by kernel_rfl) rfl rfl (YJ_nilCheck rfl) ?_
  refine BJ_y 3 rfl (by kernel_rfl) (by kernel_rfl) (by kernel_rfl) rfl rfl (YJ_fieldOwn rfl fld_57_1 rfl) ?_
  refine BJ_l 4 1 rfl (by kernel_rfl) (by kernel_rfl) (by kernel_rfl) rfl (by kernel_rfl) m1 rfl rfl (YJ_loadL rfl tyi_54 m0 rfl) ?_
  refine BJ_l 5 0 rfl (by kernel_rfl) (by kernel_rfl) (by kernel_rfl) rfl (by kernel_rfl) m0 rfl rfl (YJ_loadN (vs := [_, _, _, _, _, _, _, _, _]) rfl tyi_37 m0 rfl rfl) ?_
  refine BJ_buildSlice (vs := [_]) (cs := [_, _, _, _, _, _, _, _, _]) 6 rfl (by kernel_rfl) rfl rfl elt_54 zer_37 (by decide) (by decide) rfl rfl rfl rfl rfl (fun b => (And.intro (.inr m1) (And.intro (.inr m2) (And.intro (.inr m3) (And.intro (.inr m4) (And.intro (.inr m5) (And.intro (.inr m6) (trivial)))))))) ?_
  intro b2
  refine BJ_append 7 4 rfl (by kernel_rfl) rfl rfl elt_54 zer_37 rfl rfl rfl rfl (Rd_own m0) rfl rfl (by omega) (by omega) (by decide) (trCells_app M.tris (Tr.new a b c)) (fun _ _ => (And.intro (.inr m1) (And.intro (.inr m2) (And.intro (.inr m3) (And.intro (.inl rfl) (And.intro (.inr m5) (And.intro (.inr m6) (trivial)))))))) ?_
  intro AT cAT
  show BJ _ _ _ _ _ _ _ _ (_ :: _ :: _ :: _ :: _ :: _ :: _ :: _) _
  refine BJ_y 8 rfl (by kernel_rfl) (by kernel_rfl) (by kernel_rfl) rfl rfl (YJ_nilCheck rfl) ?_
  refine BJ_y 9 rfl (by kernel_rfl) (by kernel_rfl) (by kernel_rfl) rfl rfl (YJ_fieldOwn rfl fld_57_1 rfl) ?_
  refine BJ_store (cs' := #[_, _, _, _]) (μ' := [_, _, _, _, _, _, _]) 10 2 rfl (by kernel_rfl) rfl rfl rfl rfl tyi_54 rfl (Nat.le_of_ble_eq_true rfl) rfl rfl rfl (And.intro (.inr m1) (And.intro (.inl rfl) (And.intro (.inr m3) (And.intro (.inl rfl) (And.intro (.inr m5) (And.intro (.inr m6) (trivial))))))) ?_
  refine BJ_done (by kernel_rfl) ?_
  refine QJ_then ?_
  refine CJ_seq ?_
  refine CJ_seq ?_
  refine CJ_reg ?_
  refine LJ_y rfl rfl (YJ_fieldOwn rfl fld_37_0 rfl) ?_
  refine LJ_y rfl rfl (YJ_loadN (vs := [_, _, _]) rfl tyi_34 m1 rfl rfl) ?_
  refine LJ_y rfl rfl (YJ_move rfl) ?_
  refine LJ_nil ?_
  refine QJ_then ?_
  refine CJ_block ?_
  refine CJ_loopN 4 ?_
  refine CN_succ ?_
  refine CJ_seq ?_
  refine CJ_reg ?_
  refine LJ_y rfl rfl (YJ_bin rfl rfl rfl) ?_
  refine LJ_nil ?_
  refine QJ_then ?_
  refine CJ_seq ?_
  refine CJ_condT rfl ?_
  refine CJ_skip ?_
  refine QJ_then ?_
  refine CJ_seq ?_
  refine CJ_block ?_
  refine CJ_seq ?_
  refine CJ_reg ?_
  refine LJ_y rfl rfl (YJ_index1 rfl rfl arrt_34 tyi_3 (by omega) (by omega) rfl) ?_
  refine LJ_y rfl rfl (YJ_assign rfl) ?_
  refine LJ_nil ?_
  refine QJ_then ?_
  refine CJ_seq ?_
  refine CJ_reg ?_
  refine LJ_y rfl rfl (YJ_move rfl) ?_
  refine LJ_y rfl rfl (YJ_bin rfl rfl rfl) ?_
  refine LJ_nil ?_
  refine QJ_then ?_
  refine CJ_cond rfl (fun h73 => ?_) (fun h73 => ?_)
  ·simp only [decide_eq_true_eq] at h73
   refine CJ_reg ?_
   refine LJ_y rfl rfl (YJ_move rfl) ?_
   refine LJ_y rfl rfl (YJ_nilCheck rfl) ?_
   refine LJ_y rfl rfl (YJ_fieldOwn rfl fld_57_3 rfl) ?_
   refine LJ_y rfl rfl (YJ_loadL rfl tyi_55 m2 rfl) ?_
   refine LJ_y rfl rfl (YJ_move rfl) ?_
   refine LJ_y rfl rfl (YJ_move rfl) ?_
   refine LJ_val (v := .int .i64 nn) (by first | rfl | rw [hnn]) ?_
   refine LJ_y rfl rfl (YJ_ixOwn rfl rfl elt_55 (by omega) (by omega)) ?_
   refine LJ_storeRow (off := a.toNat) (xs' := Iv (setAt M.ats a nn)) (μ' := (_ :: _ :: _ :: _ :: _ :: _ :: _ :: _)) 6 rfl rfl rfl (addr_eq (by omega)) rfl tyi_3 rfl (by simp only [Iv_len, setAt_len]; omega) rfl (Iv_setAt (by omega) (by first | omega | (simp only [setAt_len]; omega)) rfl) (by simp only [Iv_len, setAt_len]; omega) rfl ?_
   refine LJ_nil ?_
   refine QJ_in_normal ?_
   refine QJ_then ?_
   refine CJ_reg ?_
   refine LJ_y rfl rfl (YJ_bin rfl rfl (iop_add (by omega))) ?_
   refine LJ_y rfl rfl (YJ_move rfl) ?_
   refine LJ_nil ?_
   refine QJ_thenN ?_
   refine CN_succ ?_
   refine CJ_seq ?_
   refine CJ_reg ?_
   refine LJ_y rfl rfl (YJ_bin rfl rfl rfl) ?_
   refine LJ_nil ?_
   refine QJ_then ?_
   refine CJ_seq ?_
   refine CJ_condT rfl ?_
   refine CJ_skip ?_
   refine QJ_then ?_
   refine CJ_seq ?_
   refine CJ_block ?_
   refine CJ_seq ?_
   refine CJ_reg ?_
   refine LJ_y rfl rfl (YJ_index1 rfl rfl arrt_34 tyi_3 (by omega) (by omega) rfl) ?_
   refine LJ_y rfl rfl (YJ_assign rfl) ?_
   refine LJ_nil ?_
   refine QJ_then ?_
   refine CJ_seq ?_
   refine CJ_reg ?_
   refine LJ_y rfl rfl (YJ_move rfl) ?_
   refine LJ_y rfl rfl (YJ_bin rfl rfl rfl) ?_
   refine LJ_nil ?_
   refine QJ_then ?_
   refine CJ_cond rfl (fun h73 => ?_) (fun h73 => ?_)
   ·simp only [decide_eq_true_eq] at h73
    refine CJ_reg ?_
    refine LJ_y rfl rfl (YJ_move rfl) ?_
    refine LJ_y rfl rfl (YJ_nilCheck rfl) ?_
    refine LJ_y rfl rfl (YJ_fieldOwn rfl fld_57_3 rfl) ?_
    refine LJ_y rfl rfl (YJ_loadL rfl tyi_55 m2 rfl) ?_
    refine LJ_y rfl rfl (YJ_move rfl) ?_
    refine LJ_y rfl rfl (YJ_move rfl) ?_
    refine LJ_val (v := .int .i64 nn) (by first | rfl | rw [hnn]) ?_
    refine LJ_y rfl rfl (YJ_ixOwn rfl rfl elt_55 (by omega) (by omega)) ?_
    refine LJ_storeRow (off := b.toNat) (xs' := Iv (setAt (setAt M.ats a nn) b nn)) (μ' := (_ :: _ :: _ :: _ :: _ :: _ :: _ :: _)) 6 rfl rfl rfl (addr_eq (by omega)) rfl tyi_3 rfl (by simp only [Iv_len, setAt_len]; omega) rfl (Iv_setAt (by omega) (by first | omega | (simp only [setAt_len]; omega)) rfl) (by simp only [Iv_len, setAt_len]; omega) rfl ?_
    refine LJ_nil ?_
    refine QJ_in_normal ?_
    refine QJ_then ?_
    refine CJ_reg ?_
    refine LJ_y rfl rfl (YJ_bin rfl rfl (iop_add (by omega))) ?_
    refine LJ_y rfl rfl (YJ_move rfl) ?_
    refine LJ_nil ?_
    refine QJ_thenN ?_
    refine CN_succ ?_
    refine CJ_seq ?_
    refine CJ_reg ?_
    refine LJ_y rfl rfl (YJ_bin rfl rfl rfl) ?_
    refine LJ_nil ?_
    refine QJ_then ?_
    refine CJ_seq ?_
    refine CJ_condT rfl ?_
    refine CJ_skip ?_
    refine QJ_then ?_
    refine CJ_seq ?_
    refine CJ_block ?_
    refine CJ_seq ?_
    refine CJ_reg ?_
    refine LJ_y rfl rfl (YJ_index1 rfl rfl arrt_34 tyi_3 (by omega) (by omega) rfl) ?_
    refine LJ_y rfl rfl (YJ_assign rfl) ?_
    refine LJ_nil ?_
    refine QJ_then ?_
    refine CJ_seq ?_
    refine CJ_reg ?_
    refine LJ_y rfl rfl (YJ_move rfl) ?_
    refine LJ_y rfl rfl (YJ_bin rfl rfl rfl) ?_
    refine LJ_nil ?_
    refine QJ_then ?_
    refine CJ_cond rfl (fun h73 => ?_) (fun h73 => ?_)
    ·simp only [decide_eq_true_eq] at h73
     refine CJ_reg ?_
     refine LJ_y rfl rfl (YJ_move rfl) ?_
     refine LJ_y rfl rfl (YJ_nilCheck rfl) ?_
     refine LJ_y rfl rfl (YJ_fieldOwn rfl fld_57_3 rfl) ?_
     refine LJ_y rfl rfl (YJ_loadL rfl tyi_55 m2 rfl) ?_
     refine LJ_y rfl rfl (YJ_move rfl) ?_
     refine LJ_y rfl rfl (YJ_move rfl) ?_
     refine LJ_val (v := .int .i64 nn) (by first | rfl | rw [hnn]) ?_
     refine LJ_y rfl rfl (YJ_ixOwn rfl rfl elt_55 (by omega) (by omega)) ?_
     refine LJ_storeRow (off := c.toNat) (xs' := Iv (setAt (setAt (setAt M.ats a nn) b nn) c nn)) (μ' := (_ :: _ :: _ :: _ :: _ :: _ :: _ :: _)) 6 rfl rfl rfl (addr_eq (by omega)) rfl tyi_3 rfl (by simp only [Iv_len, setAt_len]; omega) rfl (Iv_setAt (by omega) (by first | omega | (simp only [setAt_len]; omega)) rfl) (by simp only [Iv_len, setAt_len]; omega) rfl ?_
     refine LJ_nil ?_
     refine QJ_in_normal ?_
     refine QJ_then ?_
     refine CJ_reg ?_
     refine LJ_y rfl rfl (YJ_bin rfl rfl (iop_add (by omega))) ?_
     refine LJ_y rfl rfl (YJ_move rfl) ?_
     refine LJ_nil ?_
     refine QJ_thenN ?_
     refine CN_succ ?_
     refine CJ_seq ?_
     refine CJ_reg ?_
     refine LJ_y rfl rfl (YJ_bin rfl rfl rfl) ?_
     refine LJ_nil ?_
     refine QJ_then ?_
     refine CJ_seq ?_
     refine CJ_condF rfl ?_
     refine CJ_exit ?_
     refine QJ_then_exit ?_
     refine QJ_then_exit ?_
     refine QJ_in_exit ?_
     refine QJ_then ?_
     refine CJ_seq ?_
     refine CJ_reg ?_
     refine LJ_y rfl rfl (YJ_move rfl) ?_
     refine LJ_y rfl rfl (YJ_assign rfl) ?_
     refine LJ_nil ?_
     refine QJ_then ?_
     refine CJ_ret ?_
     refine QJ_closeMesh (M.make a b c) (permI [2, 2, 2, 2, 2] rfl) ⟨rfl, rfl⟩ ⟨by simp [MD.make, hf0], by simp [MD.make, hf0]⟩ ⟨by simp [MD.make, hf0], by simp [MD.make, hf0]⟩ ⟨by simp [MD.make, setAt_len], by simp [MD.make, MD.nextN, hf0, hnn]⟩ ?_
     exact QJ_fin (.inl rfl) (μ' := [_]) (μr := [_, _]) (φ' := []) (res_tmp rfl rfl) (List.Perm.refl _) (fun _ h => nomatch h) ⟨congrArg (Value.int .i64) (by simp [MD.nextN, hf0]), rfl, rfl⟩
    ·simp only [decide_eq_false_iff_not] at h73
     refine CJ_turnK (k := 6) (r' := rowR 3 1 (some ⟨gA, 0, none⟩) M.ats.length cA (Iv (setAt (setAt (setAt M.ats a nn) b nn) c nn))) rfl (fun w S q => by rw [show setAt (setAt (setAt M.ats a nn) b nn) c nn = setAt (setAt M.ats a nn) b nn from if_neg (by omega)]; exact q) ?_
     refine CJ_skip ?_
     refine QJ_in_normal ?_
     refine QJ_then ?_
     refine CJ_reg ?_
     refine LJ_y rfl rfl (YJ_bin rfl rfl (iop_add (by omega))) ?_
     refine LJ_y rfl rfl (YJ_move rfl) ?_
     refine LJ_nil ?_
     refine QJ_thenN ?_
     refine CN_succ ?_
     refine CJ_seq ?_
     refine CJ_reg ?_
     refine LJ_y rfl rfl (YJ_bin rfl rfl rfl) ?_
     refine LJ_nil ?_
     refine QJ_then ?_
     refine CJ_seq ?_
     refine CJ_condF rfl ?_
     refine CJ_exit ?_
     refine QJ_then_exit ?_
     refine QJ_then_exit ?_
     refine QJ_in_exit ?_
     refine QJ_then ?_
     refine CJ_seq ?_
     refine CJ_reg ?_
     refine LJ_y rfl rfl (YJ_move rfl) ?_
     refine LJ_y rfl rfl (YJ_assign rfl) ?_
     refine LJ_nil ?_
     refine QJ_then ?_
     refine CJ_ret ?_
     refine QJ_closeMesh (M.make a b c) (permI [2, 2, 2, 2, 2] rfl) ⟨rfl, rfl⟩ ⟨by simp [MD.make, hf0], by simp [MD.make, hf0]⟩ ⟨by simp [MD.make, hf0], by simp [MD.make, hf0]⟩ ⟨by simp [MD.make, setAt_len], by simp [MD.make, MD.nextN, hf0, hnn]⟩ ?_
     exact QJ_fin (.inl rfl) (μ' := [_]) (μr := [_, _]) (φ' := []) (res_tmp rfl rfl) (List.Perm.refl _) (fun _ h => nomatch h) ⟨congrArg (Value.int .i64) (by simp [MD.nextN, hf0]), rfl, rfl⟩
   ·simp only [decide_eq_false_iff_not] at h73
    refine CJ_turnK (k := 6) (r' := rowR 3 1 (some ⟨gA, 0, none⟩) M.ats.length cA (Iv (setAt (setAt M.ats a nn) b nn))) rfl (fun w S q => by rw [show setAt (setAt M.ats a nn) b nn = setAt M.ats a nn from if_neg (by omega)]; exact q) ?_
    refine CJ_skip ?_
    refine QJ_in_normal ?_
    refine QJ_then ?_
    refine CJ_reg ?_
    refine LJ_y rfl rfl (YJ_bin rfl rfl (iop_add (by omega))) ?_
    refine LJ_y rfl rfl (YJ_move rfl) ?_
    refine LJ_nil ?_
    refine QJ_thenN ?_
    refine CN_succ ?_
    refine CJ_seq ?_
    refine CJ_reg ?_
    refine LJ_y rfl rfl (YJ_bin rfl rfl rfl) ?_
    refine LJ_nil ?_
    refine QJ_then ?_
    refine CJ_seq ?_
    refine CJ_condT rfl ?_
    refine CJ_skip ?_
    refine QJ_then ?_
    refine CJ_seq ?_
    refine CJ_block ?_
    refine CJ_seq ?_
    refine CJ_reg ?_
    refine LJ_y rfl rfl (YJ_index1 rfl rfl arrt_34 tyi_3 (by omega) (by omega) rfl) ?_
    refine LJ_y rfl rfl (YJ_assign rfl) ?_
    refine LJ_nil ?_
    refine QJ_then ?_
    refine CJ_seq ?_
    refine CJ_reg ?_
    refine LJ_y rfl rfl (YJ_move rfl) ?_
    refine LJ_y rfl rfl (YJ_bin rfl rfl rfl) ?_
    refine LJ_nil ?_
    refine QJ_then ?_
    refine CJ_cond rfl (fun h73 => ?_) (fun h73 => ?_)
    ·simp only [decide_eq_true_eq] at h73
     refine CJ_reg ?_
     refine LJ_y rfl rfl (YJ_move rfl) ?_
     refine LJ_y rfl rfl (YJ_nilCheck rfl) ?_
     refine LJ_y rfl rfl (YJ_fieldOwn rfl fld_57_3 rfl) ?_
     refine LJ_y rfl rfl (YJ_loadL rfl tyi_55 m2 rfl) ?_
     refine LJ_y rfl rfl (YJ_move rfl) ?_
     refine LJ_y rfl rfl (YJ_move rfl) ?_
     refine LJ_val (v := .int .i64 nn) (by first | rfl | rw [hnn]) ?_
     refine LJ_y rfl rfl (YJ_ixOwn rfl rfl elt_55 (by omega) (by omega)) ?_
     refine LJ_storeRow (off := c.toNat) (xs' := Iv (setAt (setAt (setAt M.ats a nn) b nn) c nn)) (μ' := (_ :: _ :: _ :: _ :: _ :: _ :: _ :: _)) 6 rfl rfl rfl (addr_eq (by omega)) rfl tyi_3 rfl (by simp only [Iv_len, setAt_len]; omega) rfl (Iv_setAt (by omega) (by first | omega | (simp only [setAt_len]; omega)) rfl) (by simp only [Iv_len, setAt_len]; omega) rfl ?_
     refine LJ_nil ?_
     refine QJ_in_normal ?_
     refine QJ_then ?_
     refine CJ_reg ?_
     refine LJ_y rfl rfl (YJ_bin rfl rfl (iop_add (by omega))) ?_
     refine LJ_y rfl rfl (YJ_move rfl) ?_
     refine LJ_nil ?_
     refine QJ_thenN ?_
     refine CN_succ ?_
     refine CJ_seq ?_
     refine CJ_reg ?_
     refine LJ_y rfl rfl (YJ_bin rfl rfl rfl) ?_
     refine LJ_nil ?_
     refine QJ_then ?_
     refine CJ_seq ?_
     refine CJ_condF rfl ?_
     refine CJ_exit ?_
     refine QJ_then_exit ?_
     refine QJ_then_exit ?_
     refine QJ_in_exit ?_
     refine QJ_then ?_
     refine CJ_seq ?_
     refine CJ_reg ?_
     refine LJ_y rfl rfl (YJ_move rfl) ?_
     refine LJ_y rfl rfl (YJ_assign rfl) ?_
     refine LJ_nil ?_
     refine QJ_then ?_
     refine CJ_ret ?_
     refine QJ_closeMesh (M.make a b c) (permI [2, 2, 2, 2, 2] rfl) ⟨rfl, rfl⟩ ⟨by simp [MD.make, hf0], by simp [MD.make, hf0]⟩ ⟨by simp [MD.make, hf0], by simp [MD.make, hf0]⟩ ⟨by simp [MD.make, setAt_len], by simp [MD.make, MD.nextN, hf0, hnn]⟩ ?_
     exact QJ_fin (.inl rfl) (μ' := [_]) (μr := [_, _]) (φ' := []) (res_tmp rfl rfl) (List.Perm.refl _) (fun _ h => nomatch h) ⟨congrArg (Value.int .i64) (by simp [MD.nextN, hf0]), rfl, rfl⟩
    ·simp only [decide_eq_false_iff_not] at h73
     refine CJ_turnK (k := 6) (r' := rowR 3 1 (some ⟨gA, 0, none⟩) M.ats.length cA (Iv (setAt (setAt (setAt M.ats a nn) b nn) c nn))) rfl (fun w S q => by rw [show setAt (setAt (setAt M.ats a nn) b nn) c nn = setAt (setAt M.ats a nn) b nn from if_neg (by omega)]; exact q) ?_
     refine CJ_skip ?_
     refine QJ_in_normal ?_
     refine QJ_then ?_
     refine CJ_reg ?_
     refine LJ_y rfl rfl (YJ_bin rfl rfl (iop_add (by omega))) ?_
     refine LJ_y rfl rfl (YJ_move rfl) ?_
     refine LJ_nil ?_
     refine QJ_thenN ?_
     refine CN_succ ?_
     refine CJ_seq ?_
     refine CJ_reg ?_
     refine LJ_y rfl rfl (YJ_bin rfl rfl rfl) ?_
     refine LJ_nil ?_
     refine QJ_then ?_
     refine CJ_seq ?_
     refine CJ_condF rfl ?_
     refine CJ_exit ?_
     refine QJ_then_exit ?_
     refine QJ_then_exit ?_
     refine QJ_in_exit ?_
     refine QJ_then ?_
     refine CJ_seq ?_
     refine CJ_reg ?_
     refine LJ_y rfl rfl (YJ_move rfl) ?_
     refine LJ_y rfl rfl (YJ_assign rfl) ?_
     refine LJ_nil ?_
     refine QJ_then ?_
     refine CJ_ret ?_
     refine QJ_closeMesh (M.make a b c) (permI [2, 2, 2, 2, 2] rfl) ⟨rfl, rfl⟩ ⟨by simp [MD.make, hf0], by simp [MD.make, hf0]⟩ ⟨by simp [MD.make, hf0], by simp [MD.make, hf0]⟩ ⟨by simp [MD.make, setAt_len], by simp [MD.make, MD.nextN, hf0, hnn]⟩ ?_
     exact QJ_fin (.inl rfl) (μ' := [_]) (μr := [_, _]) (φ' := []) (res_tmp rfl rfl) (List.Perm.refl _) (fun _ h => nomatch h) ⟨congrArg (Value.int .i64) (by simp [MD.nextN, hf0]), rfl, rfl⟩
  ·simp only [decide_eq_false_iff_not] at h73
   refine CJ_turnK (k := 6) (r' := rowR 3 1 (some ⟨gA, 0, none⟩) M.ats.length cA (Iv (setAt M.ats a nn))) rfl (fun w S q => by rw [show setAt M.ats a nn = M.ats from if_neg (by omega)]; exact q) ?_
   refine CJ_skip ?_
   refine QJ_in_normal ?_
   refine QJ_then ?_
   refine CJ_reg ?_
   refine LJ_y rfl rfl (YJ_bin rfl rfl (iop_add (by omega))) ?_
   refine LJ_y rfl rfl (YJ_move rfl) ?_
   refine LJ_nil ?_
   refine QJ_thenN ?_
   refine CN_succ ?_
   refine CJ_seq ?_
   refine CJ_reg ?_
   refine LJ_y rfl rfl (YJ_bin rfl rfl rfl) ?_
   refine LJ_nil ?_
   refine QJ_then ?_
   refine CJ_seq ?_
   refine CJ_condT rfl ?_
   refine CJ_skip ?_
   refine QJ_then ?_
   refine CJ_seq ?_
   refine CJ_block ?_
   refine CJ_seq ?_
   refine CJ_reg ?_
   refine LJ_y rfl rfl (YJ_index1 rfl rfl arrt_34 tyi_3 (by omega) (by omega) rfl) ?_
   refine LJ_y rfl rfl (YJ_assign rfl) ?_
   refine LJ_nil ?_
   refine QJ_then ?_
   refine CJ_seq ?_
   refine CJ_reg ?_
   refine LJ_y rfl rfl (YJ_move rfl) ?_
   refine LJ_y rfl rfl (YJ_bin rfl rfl rfl) ?_
   refine LJ_nil ?_
   refine QJ_then ?_
   refine CJ_cond rfl (fun h73 => ?_) (fun h73 => ?_)
   ·simp only [decide_eq_true_eq] at h73
    refine CJ_reg ?_
    refine LJ_y rfl rfl (YJ_move rfl) ?_
    refine LJ_y rfl rfl (YJ_nilCheck rfl) ?_
    refine LJ_y rfl rfl (YJ_fieldOwn rfl fld_57_3 rfl) ?_
    refine LJ_y rfl rfl (YJ_loadL rfl tyi_55 m2 rfl) ?_
    refine LJ_y rfl rfl (YJ_move rfl) ?_
    refine LJ_y rfl rfl (YJ_move rfl) ?_
    refine LJ_val (v := .int .i64 nn) (by first | rfl | rw [hnn]) ?_
    refine LJ_y rfl rfl (YJ_ixOwn rfl rfl elt_55 (by omega) (by omega)) ?_
    refine LJ_storeRow (off := b.toNat) (xs' := Iv (setAt (setAt M.ats a nn) b nn)) (μ' := (_ :: _ :: _ :: _ :: _ :: _ :: _ :: _)) 6 rfl rfl rfl (addr_eq (by omega)) rfl tyi_3 rfl (by simp only [Iv_len, setAt_len]; omega) rfl (Iv_setAt (by omega) (by first | omega | (simp only [setAt_len]; omega)) rfl) (by simp only [Iv_len, setAt_len]; omega) rfl ?_
    refine LJ_nil ?_
    refine QJ_in_normal ?_
    refine QJ_then ?_
    refine CJ_reg ?_
    refine LJ_y rfl rfl (YJ_bin rfl rfl (iop_add (by omega))) ?_
    refine LJ_y rfl rfl (YJ_move rfl) ?_
    refine LJ_nil ?_
    refine QJ_thenN ?_
    refine CN_succ ?_
    refine CJ_seq ?_
    refine CJ_reg ?_
    refine LJ_y rfl rfl (YJ_bin rfl rfl rfl) ?_
    refine LJ_nil ?_
    refine QJ_then ?_
    refine CJ_seq ?_
    refine CJ_condT rfl ?_
    refine CJ_skip ?_
    refine QJ_then ?_
    refine CJ_seq ?_
    refine CJ_block ?_
    refine CJ_seq ?_
    refine CJ_reg ?_
    refine LJ_y rfl rfl (YJ_index1 rfl rfl arrt_34 tyi_3 (by omega) (by omega) rfl) ?_
    refine LJ_y rfl rfl (YJ_assign rfl) ?_
    refine LJ_nil ?_
    refine QJ_then ?_
    refine CJ_seq ?_
    refine CJ_reg ?_
    refine LJ_y rfl rfl (YJ_move rfl) ?_
    refine LJ_y rfl rfl (YJ_bin rfl rfl rfl) ?_
    refine LJ_nil ?_
    refine QJ_then ?_
    refine CJ_cond rfl (fun h73 => ?_) (fun h73 => ?_)
    ·simp only [decide_eq_true_eq] at h73
     refine CJ_reg ?_
     refine LJ_y rfl rfl (YJ_move rfl) ?_
     refine LJ_y rfl rfl (YJ_nilCheck rfl) ?_
     refine LJ_y rfl rfl (YJ_fieldOwn rfl fld_57_3 rfl) ?_
     refine LJ_y rfl rfl (YJ_loadL rfl tyi_55 m2 rfl) ?_
     refine LJ_y rfl rfl (YJ_move rfl) ?_
     refine LJ_y rfl rfl (YJ_move rfl) ?_
     refine LJ_val (v := .int .i64 nn) (by first | rfl | rw [hnn]) ?_
     refine LJ_y rfl rfl (YJ_ixOwn rfl rfl elt_55 (by omega) (by omega)) ?_
     refine LJ_storeRow (off := c.toNat) (xs' := Iv (setAt (setAt (setAt M.ats a nn) b nn) c nn)) (μ' := (_ :: _ :: _ :: _ :: _ :: _ :: _ :: _)) 6 rfl rfl rfl (addr_eq (by omega)) rfl tyi_3 rfl (by simp only [Iv_len, setAt_len]; omega) rfl (Iv_setAt (by omega) (by first | omega | (simp only [setAt_len]; omega)) rfl) (by simp only [Iv_len, setAt_len]; omega) rfl ?_
     refine LJ_nil ?_
     refine QJ_in_normal ?_
     refine QJ_then ?_
     refine CJ_reg ?_
     refine LJ_y rfl rfl (YJ_bin rfl rfl (iop_add (by omega))) ?_
     refine LJ_y rfl rfl (YJ_move rfl) ?_
     refine LJ_nil ?_
     refine QJ_thenN ?_
     refine CN_succ ?_
     refine CJ_seq ?_
     refine CJ_reg ?_
     refine LJ_y rfl rfl (YJ_bin rfl rfl rfl) ?_
     refine LJ_nil ?_
     refine QJ_then ?_
     refine CJ_seq ?_
     refine CJ_condF rfl ?_
     refine CJ_exit ?_
     refine QJ_then_exit ?_
     refine QJ_then_exit ?_
     refine QJ_in_exit ?_
     refine QJ_then ?_
     refine CJ_seq ?_
     refine CJ_reg ?_
     refine LJ_y rfl rfl (YJ_move rfl) ?_
     refine LJ_y rfl rfl (YJ_assign rfl) ?_
     refine LJ_nil ?_
     refine QJ_then ?_
     refine CJ_ret ?_
     refine QJ_closeMesh (M.make a b c) (permI [2, 2, 2, 2, 2] rfl) ⟨rfl, rfl⟩ ⟨by simp [MD.make, hf0], by simp [MD.make, hf0]⟩ ⟨by simp [MD.make, hf0], by simp [MD.make, hf0]⟩ ⟨by simp [MD.make, setAt_len], by simp [MD.make, MD.nextN, hf0, hnn]⟩ ?_
     exact QJ_fin (.inl rfl) (μ' := [_]) (μr := [_, _]) (φ' := []) (res_tmp rfl rfl) (List.Perm.refl _) (fun _ h => nomatch h) ⟨congrArg (Value.int .i64) (by simp [MD.nextN, hf0]), rfl, rfl⟩
    ·simp only [decide_eq_false_iff_not] at h73
     refine CJ_turnK (k := 6) (r' := rowR 3 1 (some ⟨gA, 0, none⟩) M.ats.length cA (Iv (setAt (setAt (setAt M.ats a nn) b nn) c nn))) rfl (fun w S q => by rw [show setAt (setAt (setAt M.ats a nn) b nn) c nn = setAt (setAt M.ats a nn) b nn from if_neg (by omega)]; exact q) ?_
     refine CJ_skip ?_
     refine QJ_in_normal ?_
     refine QJ_then ?_
     refine CJ_reg ?_
     refine LJ_y rfl rfl (YJ_bin rfl rfl (iop_add (by omega))) ?_
     refine LJ_y rfl rfl (YJ_move rfl) ?_
     refine LJ_nil ?_
     refine QJ_thenN ?_
     refine CN_succ ?_
     refine CJ_seq ?_
     refine CJ_reg ?_
     refine LJ_y rfl rfl (YJ_bin rfl rfl rfl) ?_
     refine LJ_nil ?_
     refine QJ_then ?_
     refine CJ_seq ?_
     refine CJ_condF rfl ?_
     refine CJ_exit ?_
     refine QJ_then_exit ?_
     refine QJ_then_exit ?_
     refine QJ_in_exit ?_
     refine QJ_then ?_
     refine CJ_seq ?_
     refine CJ_reg ?_
     refine LJ_y rfl rfl (YJ_move rfl) ?_
     refine LJ_y rfl rfl (YJ_assign rfl) ?_
     refine LJ_nil ?_
     refine QJ_then ?_
     refine CJ_ret ?_
     refine QJ_closeMesh (M.make a b c) (permI [2, 2, 2, 2, 2] rfl) ⟨rfl, rfl⟩ ⟨by simp [MD.make, hf0], by simp [MD.make, hf0]⟩ ⟨by simp [MD.make, hf0], by simp [MD.make, hf0]⟩ ⟨by simp [MD.make, setAt_len], by simp [MD.make, MD.nextN, hf0, hnn]⟩ ?_
     exact QJ_fin (.inl rfl) (μ' := [_]) (μr := [_, _]) (φ' := []) (res_tmp rfl rfl) (List.Perm.refl _) (fun _ h => nomatch h) ⟨congrArg (Value.int .i64) (by simp [MD.nextN, hf0]), rfl, rfl⟩
   ·simp only [decide_eq_false_iff_not] at h73
    refine CJ_turnK (k := 6) (r' := rowR 3 1 (some ⟨gA, 0, none⟩) M.ats.length cA (Iv (setAt (setAt M.ats a nn) b nn))) rfl (fun w S q => by rw [show setAt (setAt M.ats a nn) b nn = setAt M.ats a nn from if_neg (by omega)]; exact q) ?_
    refine CJ_skip ?_
    refine QJ_in_normal ?_
    refine QJ_then ?_
    refine CJ_reg ?_
    refine LJ_y rfl rfl (YJ_bin rfl rfl (iop_add (by omega))) ?_
    refine LJ_y rfl rfl (YJ_move rfl) ?_
    refine LJ_nil ?_
    refine QJ_thenN ?_
    refine CN_succ ?_
    refine CJ_seq ?_
    refine CJ_reg ?_
    refine LJ_y rfl rfl (YJ_bin rfl rfl rfl) ?_
    refine LJ_nil ?_
    refine QJ_then ?_
    refine CJ_seq ?_
    refine CJ_condT rfl ?_
    refine CJ_skip ?_
    refine QJ_then ?_
    refine CJ_seq ?_
    refine CJ_block ?_
    refine CJ_seq ?_
    refine CJ_reg ?_
    refine LJ_y rfl rfl (YJ_index1 rfl rfl arrt_34 tyi_3 (by omega) (by omega) rfl) ?_
    refine LJ_y rfl rfl (YJ_assign rfl) ?_
    refine LJ_nil ?_
    refine QJ_then ?_
    refine CJ_seq ?_
    refine CJ_reg ?_
    refine LJ_y rfl rfl (YJ_move rfl) ?_
    refine LJ_y rfl rfl (YJ_bin rfl rfl rfl) ?_
    refine LJ_nil ?_
    refine QJ_then ?_
    refine CJ_cond rfl (fun h73 => ?_) (fun h73 => ?_)
    ·simp only [decide_eq_true_eq] at h73
     refine CJ_reg ?_
     refine LJ_y rfl rfl (YJ_move rfl) ?_
     refine LJ_y rfl rfl (YJ_nilCheck rfl) ?_
     refine LJ_y rfl rfl (YJ_fieldOwn rfl fld_57_3 rfl) ?_
     refine LJ_y rfl rfl (YJ_loadL rfl tyi_55 m2 rfl) ?_
     refine LJ_y rfl rfl (YJ_move rfl) ?_
     refine LJ_y rfl rfl (YJ_move rfl) ?_
     refine LJ_val (v := .int .i64 nn) (by first | rfl | rw [hnn]) ?_
     refine LJ_y rfl rfl (YJ_ixOwn rfl rfl elt_55 (by omega) (by omega)) ?_
     refine LJ_storeRow (off := c.toNat) (xs' := Iv (setAt (setAt (setAt M.ats a nn) b nn) c nn)) (μ' := (_ :: _ :: _ :: _ :: _ :: _ :: _ :: _)) 6 rfl rfl rfl (addr_eq (by omega)) rfl tyi_3 rfl (by simp only [Iv_len, setAt_len]; omega) rfl (Iv_setAt (by omega) (by first | omega | (simp only [setAt_len]; omega)) rfl) (by simp only [Iv_len, setAt_len]; omega) rfl ?_
     refine LJ_nil ?_
     refine QJ_in_normal ?_
     refine QJ_then ?_
     refine CJ_reg ?_
     refine LJ_y rfl rfl (YJ_bin rfl rfl (iop_add (by omega))) ?_
     refine LJ_y rfl rfl (YJ_move rfl) ?_
     refine LJ_nil ?_
     refine QJ_thenN ?_
     refine CN_succ ?_
     refine CJ_seq ?_
     refine CJ_reg ?_
     refine LJ_y rfl rfl (YJ_bin rfl rfl rfl) ?_
     refine LJ_nil ?_
     refine QJ_then ?_
     refine CJ_seq ?_
     refine CJ_condF rfl ?_
     refine CJ_exit ?_
     refine QJ_then_exit ?_
     refine QJ_then_exit ?_
     refine QJ_in_exit ?_
     refine QJ_then ?_
     refine CJ_seq ?_
     refine CJ_reg ?_
     refine LJ_y rfl rfl (YJ_move rfl) ?_
     refine LJ_y rfl rfl (YJ_assign rfl) ?_
     refine LJ_nil ?_
     refine QJ_then ?_
     refine CJ_ret ?_
     refine QJ_closeMesh (M.make a b c) (permI [2, 2, 2, 2, 2] rfl) ⟨rfl, rfl⟩ ⟨by simp [MD.make, hf0], by simp [MD.make, hf0]⟩ ⟨by simp [MD.make, hf0], by simp [MD.make, hf0]⟩ ⟨by simp [MD.make, setAt_len], by simp [MD.make, MD.nextN, hf0, hnn]⟩ ?_
     exact QJ_fin (.inl rfl) (μ' := [_]) (μr := [_, _]) (φ' := []) (res_tmp rfl rfl) (List.Perm.refl _) (fun _ h => nomatch h) ⟨congrArg (Value.int .i64) (by simp [MD.nextN, hf0]), rfl, rfl⟩
    ·simp only [decide_eq_false_iff_not] at h73
     refine CJ_turnK (k := 6) (r' := rowR 3 1 (some ⟨gA, 0, none⟩) M.ats.length cA (Iv (setAt (setAt (setAt M.ats a nn) b nn) c nn))) rfl (fun w S q => by rw [show setAt (setAt (setAt M.ats a nn) b nn) c nn = setAt (setAt M.ats a nn) b nn from if_neg (by omega)]; exact q) ?_
     refine CJ_skip ?_
     refine QJ_in_normal ?_
     refine QJ_then ?_
     refine CJ_reg ?_
     refine LJ_y rfl rfl (YJ_bin rfl rfl (iop_add (by omega))) ?_
     refine LJ_y rfl rfl (YJ_move rfl) ?_
     refine LJ_nil ?_
     refine QJ_thenN ?_
     refine CN_succ ?_
     refine CJ_seq ?_
     refine CJ_reg ?_
     refine LJ_y rfl rfl (YJ_bin rfl rfl rfl) ?_
     refine LJ_nil ?_
     refine QJ_then ?_
     refine CJ_seq ?_
     refine CJ_condF rfl ?_
     refine CJ_exit ?_
     refine QJ_then_exit ?_
     refine QJ_then_exit ?_
     refine QJ_in_exit ?_
     refine QJ_then ?_
     refine CJ_seq ?_
     refine CJ_reg ?_
     refine LJ_y rfl rfl (YJ_move rfl) ?_
     refine LJ_y rfl rfl (YJ_assign rfl) ?_
     refine LJ_nil ?_
     refine QJ_then ?_
     refine CJ_ret ?_
     refine QJ_closeMesh (M.make a b c) (permI [2, 2, 2, 2, 2] rfl) ⟨rfl, rfl⟩ ⟨by simp [MD.make, hf0], by simp [MD.make, hf0]⟩ ⟨by simp [MD.make, hf0], by simp [MD.make, hf0]⟩ ⟨by simp [MD.make, setAt_len], by simp [MD.make, MD.nextN, hf0, hnn]⟩ ?_
     exact QJ_fin (.inl rfl) (μ' := [_]) (μr := [_, _]) (φ' := []) (res_tmp rfl rfl) (List.Perm.refl _) (fun _ h => nomatch h) ⟨congrArg (Value.int .i64) (by simp [MD.nextN, hf0]), rfl, rfl⟩
end Go.Proofs.Ytbanlhlggkdanaa
namespace Go.Proofs.Ytbanlhlggkdanaa
open Go.RowKit
theorem ent_18 : Enter Try.prog 18 = true := by kernel_rfl
theorem lay_57 : lay1 Try.prog 57 = some [.slice none 0 0, .slice none 0 0, .slice none 0 0, .slice none 0 0] := by kernel_rfl
def newM0 (pts : List (Int × Int)) : MD := ⟨pts, [], [], List.replicate pts.length (-1)⟩
def newM (pts : List (Int × Int)) (a b c : Int) : MD :=
 (((((((((((newM0 pts).make a b c).make c b (-1)).link 0 0 1 2 false).make a c (-1)).link 0 1 2 2 false).make b a (-1)).link 0 2 3 2 false).link 1 1 2 0 false).link 2 1 3 0 false).link 3 1 1 0 false)
theorem ptCells_len : ∀ (l : List (Int × Int)), (ptCells l).length = l.length * 2
 | [] => rfl
 | p :: l => by
  have := ptCells_len l
  simp only [ptCells, List.flatMap_cons, List.length_append, List.length_cons, List.length_nil] at *
  omega
theorem ptCells_one : ∀ (l : List (Int × Int)), (ptCells l).all (·.oneCell') = true
 | [] => rfl
 | p :: l => by
  have := ptCells_one l
  simp only [ptCells, List.flatMap_cons, List.all_append, List.all_cons] at *
  rw [this]
  rfl
theorem Iv_rep (k : Nat) : Iv (List.replicate k (-1)) ++ [Value.int .i64 (-1)] = Iv (List.replicate (k + 1) (-1)) := by
 rw [List.replicate_succ', Iv, Iv, List.map_append]
 rfl
abbrev pA (pts : List (Int × Int)) (a b c : Nat) : Int := A2 (pts.getD a (0, 0)).1 (pts.getD a (0, 0)).2 (pts.getD b (0, 0)).1 (pts.getD b (0, 0)).2 (pts.getD c (0, 0)).1 (pts.getD c (0, 0)).2
set_option maxRecDepth 100000 in
set_option maxHeartbeats 8000000 in
theorem new_pos {A : Option Addr} {pts : List (Int × Int)} {cp a b c : Nat} (hlen : pts.length ≤ 100000) (ha : a < pts.length) (hb : b < pts.length) (hc : c < pts.length) (hP : ∀ j, j < pts.length → P2 (pts.getD j (0, 0)).1 (pts.getD j (0, 0)).2) (hA : 0 < pA pts a b c) : Tri Try.prog 18 [.slice A pts.length cp, .int .i64 (a : Int), .int .i64 (b : Int), .int .i64 (c : Int)] [] [sliceR 2 A pts.length (ptCells pts)] (RetL (fun _ : Nat => True) (fun B => .tuple #[.pointer (some ⟨B, 0, none⟩), .bool true]) (fun B => meshR B (newM pts a b c)) (fun _ => [])) := by
 refine Tri_of (N := 102) Try.func18 rfl ent_18 rfl rfl ?_
 intro w0 S0 T0
 show CJ _ _ _ [(0, _), (1, _), (2, _), (3, _)] _ _
 have hpl := ptCells_len pts
 have hs0 : ¬ sgn (pA pts a b c) = 0 := by have := sgn_cases (pA pts a b c); omega
 have hs1 : ¬ sgn (pA pts a b c) = -1 := by have := sgn_cases (pA pts a b c); omega
 refine CJ_seq ?_
 refine CJ_reg ?_
 refine LJ_y rfl rfl (YJ_assign rfl) ?_
 refine LJ_y rfl rfl (YJ_assign rfl) ?_
 refine LJ_nil ?_
 refine QJ_then ?_
 refine CJ_seq ?_
 refine CJ_newRow 3 1 ?_
 refine CJ_newRow 3 1 ?_
 refine CJ_newRow 37 9 ?_
 refine CJ_newRow 23 2 ?_
 refine CJ_reg ?_
 refine LJ_y rfl rfl (YJ_move rfl) ?_
 refine LJ_append 0 rfl rfl elt_26 zer_23 rfl rfl rfl rfl (Rd_fact m0 (by omega)) hpl (ptCells_one pts) (by omega) (by omega) (by decide) (List.nil_append _) ?_
 intro AP cP
 show LJ _ _ _ _ _ (_ :: _ :: _ :: _ :: _) _
 refine LJ_y rfl rfl (YJ_build1 (cs := [_, _, _, _]) lay_57 rfl rfl rfl) ?_
 refine LJ_box (cs := #[_, _, _, _]) rfl rfl rfl rfl ?_
 intro b1
 refine LJ_y rfl rfl (YJ_assign rfl) ?_
 refine LJ_nil ?_
 refine QJ_then ?_
 refine CJ_seq ?_
 refine CJ_seq ?_
 refine CJ_reg ?_
 refine LJ_y rfl rfl (YJ_move rfl) ?_
 refine LJ_y rfl rfl (YJ_len rfl ulen_26 rfl) ?_
 refine LJ_y rfl rfl (YJ_move rfl) ?_
 refine LJ_nil ?_
 refine QJ_then ?_
 refine CJ_block ?_
 refine CJ_loopF (F := fun (i : Nat × Option Addr × Nat) => ⟨[(0, .slice A pts.length cp), (1, .int .i64 (a : Int)), (2, .int .i64 (b : Int)), (3, .int .i64 (c : Int)), (10, .pointer (some ⟨b1, 0, none⟩)), (21, .int .i64 pts.length), (22, .int .i64 (i.1 : Nat))], [cellsR b1 #[.slice AP (0 + pts.length) cP, .slice none 0 0, .slice none 0 0, .slice i.2.1 i.1 i.2.2] 57, rowR 3 1 i.2.1 i.1 i.2.2 (Iv (List.replicate i.1 (-1)))], []⟩) (I := fun (i : Nat × Option Addr × Nat) => i.1 ≤ pts.length) (m := fun (i : Nat × Option Addr × Nat) => pts.length - i.1) (0, none, 0) (μr := [_, _, _]) (Nat.zero_le _) (And.intro rfl (And.intro rfl (And.intro rfl (And.intro rfl (And.intro rfl (And.intro rfl (And.intro rfl (trivial)))))))) (permI [0, 3] rfl) (fun _ h => nomatch h) ?_
 rintro ⟨k, A0, cA0⟩ hk
 try dsimp only at hk
 show CJ _ _ _ [(0, .slice A pts.length cp), (1, .int .i64 (a : Int)), (2, .int .i64 (b : Int)), (3, .int .i64 (c : Int)), (10, .pointer (some ⟨b1, 0, none⟩)), (21, .int .i64 pts.length), (22, .int .i64 (k : Nat))] (cellsR b1 #[.slice AP (0 + pts.length) cP, .slice none 0 0, .slice none 0 0, .slice A0 k cA0] 57 :: rowR 3 1 A0 k cA0 (Iv (List.replicate k (-1))) :: _ :: _ :: _ :: _) _
 refine CJ_seq ?_
 refine CJ_reg ?_
 refine LJ_y rfl rfl (YJ_bin rfl rfl rfl) ?_
 refine LJ_nil ?_
 refine QJ_then ?_
 refine CJ_seq ?_
 refine CJ_cond rfl (fun h23 => ?_) (fun h23 => ?_)
 ·simp only [decide_eq_true_eq] at h23
  refine CJ_skip ?_
  refine QJ_then ?_
  refine CJ_seq ?_
  refine CJ_block ?_
  refine CJ_reg ?_
  refine LJ_y rfl rfl (YJ_move rfl) ?_
  refine LJ_y rfl rfl (YJ_move rfl) ?_
  refine LJ_y rfl rfl (YJ_nilCheck rfl) ?_
  refine LJ_y rfl rfl (YJ_fieldOwn rfl fld_57_3 rfl) ?_
  refine LJ_y rfl rfl (YJ_loadL rfl tyi_55 m0 rfl) ?_
  refine LJ_buildSlice (cs := [_]) rfl rfl elt_55 zer_3 rfl (by decide) (pvs := [(_, _)]) rfl rfl rfl ?_
  intro b2
  refine LJ_append 2 rfl rfl elt_55 zer_3 rfl rfl rfl rfl (Rd_own m0) rfl rfl (by omega) (by omega) (by decide) (Iv_rep k) ?_
  intro A30 c30
  show LJ _ _ _ _ _ (_ :: _ :: _ :: _ :: _ :: _ :: _) _
  refine LJ_y rfl rfl (YJ_nilCheck rfl) ?_
  refine LJ_y rfl rfl (YJ_fieldOwn rfl fld_57_3 rfl) ?_
  refine LJ_store (cs' := #[_, _, _, _]) (μ' := [_, _, _, _, _, _]) 1 rfl rfl rfl rfl tyi_55 rfl (Nat.le_of_ble_eq_true rfl) rfl rfl rfl ?_
  refine LJ_nil ?_
  refine QJ_in_normal ?_
  refine QJ_then ?_
  refine CJ_reg ?_
  refine LJ_y rfl rfl (YJ_bin rfl rfl (iop_add (by omega))) ?_
  refine LJ_y rfl rfl (YJ_move rfl) ?_
  refine LJ_nil ?_
  refine QJ_roundF (F := fun (i : Nat × Option Addr × Nat) => ⟨[(0, .slice A pts.length cp), (1, .int .i64 (a : Int)), (2, .int .i64 (b : Int)), (3, .int .i64 (c : Int)), (10, .pointer (some ⟨b1, 0, none⟩)), (21, .int .i64 pts.length), (22, .int .i64 (i.1 : Nat))], [cellsR b1 #[.slice AP (0 + pts.length) cP, .slice none 0 0, .slice none 0 0, .slice i.2.1 i.1 i.2.2] 57, rowR 3 1 i.2.1 i.1 i.2.2 (Iv (List.replicate i.1 (-1)))], []⟩) (I := fun (i : Nat × Option Addr × Nat) => i.1 ≤ pts.length) (m := fun (i : Nat × Option Addr × Nat) => pts.length - i.1) (i := (k, A0, cA0)) ((k + 1, A30, c30)) (μd := [_]) (by dsimp only; omega) (by dsimp only; omega) (And.intro rfl (And.intro rfl (And.intro rfl (And.intro rfl (And.intro rfl (And.intro rfl (And.intro rfl (trivial)))))))) (permI [1, 1, 1, 1, 1] rfl) (fun _ h => nomatch h) (fun _ h => h)
 ·simp only [decide_eq_false_iff_not] at h23
  refine CJ_exit ?_
  refine QJ_then_exit ?_
  refine QJ_then_exit ?_
  refine QJ_in_exit ?_
  refine QJ_then ?_
  refine CJ_seq ?_
  refine CJ_seq ?_
  refine CJ_regD mix (by kernel_rfl) (fun _ _ _ _ _ h => h) _ _ (fun _ h => h) (fun _ h => h) ?_
  refine AJ_y 0 rfl (by kernel_rfl) (by kernel_rfl) rfl rfl (YJ_move rfl) ?_
  refine AJ_y 1 rfl (by kernel_rfl) (by kernel_rfl) rfl rfl (YJ_move rfl) ?_
  refine AJ_y 2 rfl (by kernel_rfl) (by kernel_rfl) rfl rfl (YJ_ixFact rfl rfl elt_26 m0 (by decide) (by omega) (by omega) (by omega)) ?_
  refine AJ_y 3 rfl (by kernel_rfl) (by kernel_rfl) rfl rfl (YJ_loadFactN (vs := [_, _]) (xs := ptCells pts) rfl tyi_23 m0 (ptCells_get (i := a) (by omega)) rfl) ?_
  refine AJ_y 4 rfl (by kernel_rfl) (by kernel_rfl) rfl rfl (YJ_move rfl) ?_
  refine AJ_y 5 rfl (by kernel_rfl) (by kernel_rfl) rfl rfl (YJ_move rfl) ?_
  refine AJ_y 6 rfl (by kernel_rfl) (by kernel_rfl) rfl rfl (YJ_ixFact rfl rfl elt_26 m0 (by decide) (by omega) (by omega) (by omega)) ?_
  refine AJ_y 7 rfl (by kernel_rfl) (by kernel_rfl) rfl rfl (YJ_loadFactN (vs := [_, _]) (xs := ptCells pts) rfl tyi_23 m0 (ptCells_get (i := b) (by omega)) rfl) ?_
  refine AJ_y 8 rfl (by kernel_rfl) (by kernel_rfl) rfl rfl (YJ_move rfl) ?_
  refine AJ_y 9 rfl (by kernel_rfl) (by kernel_rfl) rfl rfl (YJ_move rfl) ?_
  refine AJ_y 10 rfl (by kernel_rfl) (by kernel_rfl) rfl rfl (YJ_ixFact rfl rfl elt_26 m0 (by decide) (by omega) (by omega) (by omega)) ?_
  refine AJ_y 11 rfl (by kernel_rfl) (by kernel_rfl) rfl rfl (YJ_loadFactN (vs := [_, _]) (xs := ptCells pts) rfl tyi_23 m0 (ptCells_get (i := c) (by omega)) rfl) ?_
  refine AJ_call0 12 rfl (by kernel_rfl) rfl rfl rfl rfl rfl (orient_c (hP a ha) (hP b hb) (hP c hc)) (AllIn.sub (by first | exact trivial | exact And.intro (by repeat first | exact .head _ | apply List.Mem.tail) trivial | exact And.intro (by repeat first | exact .head _ | apply List.Mem.tail) (And.intro (by repeat first | exact .head _ | apply List.Mem.tail) trivial))) ?_
  refine AJ_done (by kernel_rfl) ?_
  refine QJ_then ?_
  refine CJ_block ?_
  refine CJ_seq ?_
  refine CJ_reg ?_
  refine LJ_y rfl rfl (YJ_bin rfl rfl rfl) ?_
  refine LJ_y rfl rfl (YJ_assign rfl) ?_
  refine LJ_nil ?_
  refine QJ_then ?_
  refine CJ_condF2 rfl (decide_eq_false hs0) ?_
  refine CJ_seq ?_
  refine CJ_reg ?_
  refine LJ_y rfl rfl (YJ_bin rfl rfl rfl) ?_
  refine LJ_y rfl rfl (YJ_assign rfl) ?_
  refine LJ_nil ?_
  refine QJ_then ?_
  refine CJ_condF2 rfl (decide_eq_false hs1) ?_
  refine CJ_skip ?_
  refine QJ_in_normal ?_
  refine QJ_then ?_
  refine CJ_seq ?_
  refine CJ_closeMesh (newM0 pts) (μr := []) (permI [0, 1, 1, 1] rfl) ⟨by simp [newM0], rfl⟩ ⟨rfl, rfl⟩ ⟨rfl, rfl⟩ ⟨by simp [newM0]; omega, by simp only [newM0]; rw [show k = pts.length by omega]⟩ ?_
  refine CJ_reg ?_
  refine LJ_y rfl rfl (YJ_move rfl) ?_
  refine LJ_y rfl rfl (YJ_move rfl) ?_
  refine LJ_y rfl rfl (YJ_move rfl) ?_
  refine LJ_y rfl rfl (YJ_move rfl) ?_
  refine LJ_call1 0 rfl rfl rfl rfl rfl rfl (make_c (a := (a : Int)) (b := (b : Int)) (c := (c : Int)) (by simp [newM0, MD.make, MD.link]; try omega) (by simp [newM0, MD.make, MD.link]; try omega) (by simp [newM0, MD.make, MD.link]; try omega) (by simp [newM0, MD.make, MD.link, setAt_len]; try omega) (by simp [newM0, MD.make, MD.link, setAt_len]; try omega) (by simp [newM0, MD.make, MD.link, setAt_len]; try omega) (by simp [newM0, MD.make, MD.link, setAt_len]; try omega)) (fun _ h => nomatch h) ?_
  show LJ _ _ _ _ _ (_ :: _) _
  refine LJ_val (v := .int .i64 0) (rfl) ?_
  refine LJ_y rfl rfl (YJ_assign rfl) ?_
  refine LJ_nil ?_
  refine QJ_then ?_
  refine CJ_seq ?_
  refine CJ_reg ?_
  refine LJ_y rfl rfl (YJ_move rfl) ?_
  refine LJ_y rfl rfl (YJ_move rfl) ?_
  refine LJ_y rfl rfl (YJ_move rfl) ?_
  refine LJ_y rfl rfl (YJ_build1 (cs := [_, _, _]) lay_34 rfl rfl rfl) ?_
  refine LJ_alloc (cs := #[_, _, _]) rfl rfl zer_34 rfl ?_
  intro b3
  refine LJ_store (cs' := #[_, _, _]) (μ' := [_, _]) 0 rfl rfl rfl rfl tyi_34 rfl (Nat.le_of_ble_eq_true rfl) rfl rfl rfl ?_
  refine LJ_nil ?_
  refine QJ_then ?_
  refine CJ_seq ?_
  refine CJ_reg ?_
  refine LJ_alloc (cs := #[_, _, _]) rfl rfl zer_34 rfl ?_
  intro b4
  refine LJ_nil ?_
  refine QJ_then ?_
  refine CJ_seq ?_
  refine CJ_seq ?_
  refine CJ_reg ?_
  refine LJ_y rfl rfl (YJ_move rfl) ?_
  refine LJ_nil ?_
  refine QJ_then ?_
  refine CJ_block ?_
  refine CJ_loopN 4 ?_
  refine CN_succ ?_
  refine CJ_seq ?_
  refine CJ_reg ?_
  refine LJ_y rfl rfl (YJ_bin rfl rfl rfl) ?_
  refine LJ_nil ?_
  refine QJ_then ?_
  refine CJ_seq ?_
  refine CJ_condT rfl ?_
  refine CJ_skip ?_
  refine QJ_then ?_
  refine CJ_seq ?_
  refine CJ_block ?_
  refine CJ_seq ?_
  refine CJ_reg ?_
  refine LJ_y rfl rfl (YJ_move rfl) ?_
  refine LJ_y rfl rfl (YJ_assign rfl) ?_
  refine LJ_nil ?_
  refine QJ_then ?_
  refine CJ_seq ?_
  refine CJ_regD mix (by kernel_rfl) (fun _ _ _ _ _ h => h) (selR [1] _) _ (selR_sub _ _) (fun _ h => h) ?_
  refine AJ_y 0 rfl (by kernel_rfl) (by kernel_rfl) rfl rfl (YJ_move rfl) ?_
  refine AJ_y 1 rfl (by kernel_rfl) (by kernel_rfl) rfl rfl (YJ_move rfl) ?_
  refine AJ_y 2 rfl (by kernel_rfl) (by kernel_rfl) rfl rfl (YJ_move rfl) ?_
  refine AJ_y 3 rfl (by kernel_rfl) (by kernel_rfl) rfl rfl (YJ_bin rfl rfl (iop_add (by omega))) ?_
  refine AJ_y 4 rfl (by kernel_rfl) (by kernel_rfl) rfl rfl (YJ_rem rfl rfl (by first | decide | omega)) ?_
  refine AJ_val (v := .int .i64 2) (rfl) ?_
  refine AJ_y 5 rfl (by kernel_rfl) (by kernel_rfl) rfl rfl (YJ_ixArr rfl rfl arrt_34 (by omega) (by omega) rfl) ?_
  refine AJ_y 6 rfl (by kernel_rfl) (by kernel_rfl) rfl rfl (YJ_loadL rfl tyi_3 m0 rfl) ?_
  refine AJ_y 7 rfl (by kernel_rfl) (by kernel_rfl) rfl rfl (YJ_move rfl) ?_
  refine AJ_y 8 rfl (by kernel_rfl) (by kernel_rfl) rfl rfl (YJ_bin rfl rfl (iop_add (by omega))) ?_
  refine AJ_y 9 rfl (by kernel_rfl) (by kernel_rfl) rfl rfl (YJ_rem rfl rfl (by first | decide | omega)) ?_
  refine AJ_val (v := .int .i64 1) (rfl) ?_
  refine AJ_y 10 rfl (by kernel_rfl) (by kernel_rfl) rfl rfl (YJ_ixArr rfl rfl arrt_34 (by omega) (by omega) rfl) ?_
  refine AJ_y 11 rfl (by kernel_rfl) (by kernel_rfl) rfl rfl (YJ_loadL rfl tyi_3 m0 rfl) ?_
  refine AJ_call1 12 2 rfl (by kernel_rfl) rfl rfl rfl rfl rfl rfl (make_c (a := (c : Int)) (b := (b : Int)) (c := (-1)) (by simp [newM0, MD.make, MD.link]; try omega) (by simp [newM0, MD.make, MD.link]; try omega) (by simp [newM0, MD.make, MD.link]; try omega) (by simp [newM0, MD.make, MD.link, setAt_len]; try omega) (by simp [newM0, MD.make, MD.link, setAt_len]; try omega) (by simp [newM0, MD.make, MD.link, setAt_len]; try omega) (by simp [newM0, MD.make, MD.link, setAt_len]; try omega)) (fun _ h => nomatch h) (AllIn.sub (And.intro m1 (trivial))) ?_
  show AJ _ _ _ _ _ _ _ _ (_ :: _ :: _ :: _) _
  refine AJ_val (v := .int .i64 1) (rfl) ?_
  refine AJ_y 13 rfl (by kernel_rfl) (by kernel_rfl) rfl rfl (YJ_ixArr rfl rfl arrt_34 (by omega) (by omega) rfl) ?_
  refine AJ_store (cs' := #[_, _, _]) (μ' := [_, _, _]) 14 0 rfl (by kernel_rfl) rfl rfl rfl rfl tyi_3 rfl (Nat.le_of_ble_eq_true rfl) rfl rfl rfl (fun _ => AllIn.sub (And.intro m1 (trivial))) ?_
  refine AJ_done (by kernel_rfl) ?_
  refine QJ_then ?_
  refine CJ_reg ?_
  refine LJ_y rfl rfl (YJ_move rfl) ?_
  refine LJ_y rfl rfl (YJ_move rfl) ?_
  refine LJ_y rfl rfl (YJ_move rfl) ?_
  refine LJ_y rfl rfl (YJ_move rfl) ?_
  refine LJ_y rfl rfl (YJ_ixArr rfl rfl arrt_34 (by omega) (by omega) rfl) ?_
  refine LJ_y rfl rfl (YJ_loadL rfl tyi_3 m0 rfl) ?_
  refine LJ_call1 2 rfl rfl rfl rfl rfl rfl (link_c (t := 0) (i := 0) (u := 1) (j := 2) (f := false) (by simp [newM0, MD.make, MD.link]; try omega) (by simp [newM0, MD.make, MD.link]; try omega) (by decide) (by decide)) (fun _ h => nomatch h) ?_
  show LJ _ _ _ _ _ (_ :: _ :: _ :: _) _
  refine LJ_nil ?_
  refine QJ_in_normal ?_
  refine QJ_then ?_
  refine CJ_reg ?_
  refine LJ_y rfl rfl (YJ_bin rfl rfl (iop_add (by omega))) ?_
  refine LJ_y rfl rfl (YJ_move rfl) ?_
  refine LJ_nil ?_
  refine QJ_thenN ?_
  refine CN_succ ?_
  refine CJ_seq ?_
  refine CJ_reg ?_
  refine LJ_y rfl rfl (YJ_bin rfl rfl rfl) ?_
  refine LJ_nil ?_
  refine QJ_then ?_
  refine CJ_seq ?_
  refine CJ_condT rfl ?_
  refine CJ_skip ?_
  refine QJ_then ?_
  refine CJ_seq ?_
  refine CJ_block ?_
  refine CJ_seq ?_
  refine CJ_reg ?_
  refine LJ_y rfl rfl (YJ_move rfl) ?_
  refine LJ_y rfl rfl (YJ_assign rfl) ?_
  refine LJ_nil ?_
  refine QJ_then ?_
  refine CJ_seq ?_
  refine CJ_regD mix (by kernel_rfl) (fun _ _ _ _ _ h => h) (selR [1] _) _ (selR_sub _ _) (fun _ h => h) ?_
  refine AJ_y 0 rfl (by kernel_rfl) (by kernel_rfl) rfl rfl (YJ_move rfl) ?_
  refine AJ_y 1 rfl (by kernel_rfl) (by kernel_rfl) rfl rfl (YJ_move rfl) ?_
  refine AJ_y 2 rfl (by kernel_rfl) (by kernel_rfl) rfl rfl (YJ_move rfl) ?_
  refine AJ_y 3 rfl (by kernel_rfl) (by kernel_rfl) rfl rfl (YJ_bin rfl rfl (iop_add (by omega))) ?_
  refine AJ_y 4 rfl (by kernel_rfl) (by kernel_rfl) rfl rfl (YJ_rem rfl rfl (by first | decide | omega)) ?_
  refine AJ_val (v := .int .i64 0) (rfl) ?_
  refine AJ_y 5 rfl (by kernel_rfl) (by kernel_rfl) rfl rfl (YJ_ixArr rfl rfl arrt_34 (by omega) (by omega) rfl) ?_
  refine AJ_y 6 rfl (by kernel_rfl) (by kernel_rfl) rfl rfl (YJ_loadL rfl tyi_3 m0 rfl) ?_
  refine AJ_y 7 rfl (by kernel_rfl) (by kernel_rfl) rfl rfl (YJ_move rfl) ?_
  refine AJ_y 8 rfl (by kernel_rfl) (by kernel_rfl) rfl rfl (YJ_bin rfl rfl (iop_add (by omega))) ?_
  refine AJ_y 9 rfl (by kernel_rfl) (by kernel_rfl) rfl rfl (YJ_rem rfl rfl (by first | decide | omega)) ?_
  refine AJ_val (v := .int .i64 2) (rfl) ?_
  refine AJ_y 10 rfl (by kernel_rfl) (by kernel_rfl) rfl rfl (YJ_ixArr rfl rfl arrt_34 (by omega) (by omega) rfl) ?_
  refine AJ_y 11 rfl (by kernel_rfl) (by kernel_rfl) rfl rfl (YJ_loadL rfl tyi_3 m0 rfl) ?_
  refine AJ_call1 12 2 rfl (by kernel_rfl) rfl rfl rfl rfl rfl rfl (make_c (a := (a : Int)) (b := (c : Int)) (c := (-1)) (by simp [newM0, MD.make, MD.link]; try omega) (by simp [newM0, MD.make, MD.link]; try omega) (by simp [newM0, MD.make, MD.link]; try omega) (by simp [newM0, MD.make, MD.link, setAt_len]; try omega) (by simp [newM0, MD.make, MD.link, setAt_len]; try omega) (by simp [newM0, MD.make, MD.link, setAt_len]; try omega) (by simp [newM0, MD.make, MD.link, setAt_len]; try omega)) (fun _ h => nomatch h) (AllIn.sub (And.intro m1 (trivial))) ?_
  show AJ _ _ _ _ _ _ _ _ (_ :: _ :: _ :: _) _
  refine AJ_val (v := .int .i64 2) (rfl) ?_
  refine AJ_y 13 rfl (by kernel_rfl) (by kernel_rfl) rfl rfl (YJ_ixArr rfl rfl arrt_34 (by omega) (by omega) rfl) ?_
  refine AJ_store (cs' := #[_, _, _]) (μ' := [_, _, _]) 14 0 rfl (by kernel_rfl) rfl rfl rfl rfl tyi_3 rfl (Nat.le_of_ble_eq_true rfl) rfl rfl rfl (fun _ => AllIn.sub (And.intro m1 (trivial))) ?_
  refine AJ_done (by kernel_rfl) ?_
  refine QJ_then ?_
  refine CJ_reg ?_
  refine LJ_y rfl rfl (YJ_move rfl) ?_
  refine LJ_y rfl rfl (YJ_move rfl) ?_
  refine LJ_y rfl rfl (YJ_move rfl) ?_
  refine LJ_y rfl rfl (YJ_move rfl) ?_
  refine LJ_y rfl rfl (YJ_ixArr rfl rfl arrt_34 (by omega) (by omega) rfl) ?_
  refine LJ_y rfl rfl (YJ_loadL rfl tyi_3 m0 rfl) ?_
  refine LJ_call1 2 rfl rfl rfl rfl rfl rfl (link_c (t := 0) (i := 1) (u := 2) (j := 2) (f := false) (by simp [newM0, MD.make, MD.link]; try omega) (by simp [newM0, MD.make, MD.link]; try omega) (by decide) (by decide)) (fun _ h => nomatch h) ?_
  show LJ _ _ _ _ _ (_ :: _ :: _ :: _) _
  refine LJ_nil ?_
  refine QJ_in_normal ?_
  refine QJ_then ?_
  refine CJ_reg ?_
  refine LJ_y rfl rfl (YJ_bin rfl rfl (iop_add (by omega))) ?_
  refine LJ_y rfl rfl (YJ_move rfl) ?_
  refine LJ_nil ?_
  refine QJ_thenN ?_
  refine CN_succ ?_
  refine CJ_seq ?_
  refine CJ_reg ?_
  refine LJ_y rfl rfl (YJ_bin rfl rfl rfl) ?_
  refine LJ_nil ?_
  refine QJ_then ?_
  refine CJ_seq ?_
  refine CJ_condT rfl ?_
  refine CJ_skip ?_
  refine QJ_then ?_
  refine CJ_seq ?_
  refine CJ_block ?_
  refine CJ_seq ?_
  refine CJ_reg ?_
  refine LJ_y rfl rfl (YJ_move rfl) ?_
  refine LJ_y rfl rfl (YJ_assign rfl) ?_
  refine LJ_nil ?_
  refine QJ_then ?_
  refine CJ_seq ?_
  refine CJ_regD mix (by kernel_rfl) (fun _ _ _ _ _ h => h) (selR [1] _) _ (selR_sub _ _) (fun _ h => h) ?_
  refine AJ_y 0 rfl (by kernel_rfl) (by kernel_rfl) rfl rfl (YJ_move rfl) ?_
  refine AJ_y 1 rfl (by kernel_rfl) (by kernel_rfl) rfl rfl (YJ_move rfl) ?_
  refine AJ_y 2 rfl (by kernel_rfl) (by kernel_rfl) rfl rfl (YJ_move rfl) ?_
  refine AJ_y 3 rfl (by kernel_rfl) (by kernel_rfl) rfl rfl (YJ_bin rfl rfl (iop_add (by omega))) ?_
  refine AJ_y 4 rfl (by kernel_rfl) (by kernel_rfl) rfl rfl (YJ_rem rfl rfl (by first | decide | omega)) ?_
  refine AJ_val (v := .int .i64 1) (rfl) ?_
  refine AJ_y 5 rfl (by kernel_rfl) (by kernel_rfl) rfl rfl (YJ_ixArr rfl rfl arrt_34 (by omega) (by omega) rfl) ?_
  refine AJ_y 6 rfl (by kernel_rfl) (by kernel_rfl) rfl rfl (YJ_loadL rfl tyi_3 m0 rfl) ?_
  refine AJ_y 7 rfl (by kernel_rfl) (by kernel_rfl) rfl rfl (YJ_move rfl) ?_
  refine AJ_y 8 rfl (by kernel_rfl) (by kernel_rfl) rfl rfl (YJ_bin rfl rfl (iop_add (by omega))) ?_
  refine AJ_y 9 rfl (by kernel_rfl) (by kernel_rfl) rfl rfl (YJ_rem rfl rfl (by first | decide | omega)) ?_
  refine AJ_val (v := .int .i64 0) (rfl) ?_
  refine AJ_y 10 rfl (by kernel_rfl) (by kernel_rfl) rfl rfl (YJ_ixArr rfl rfl arrt_34 (by omega) (by omega) rfl) ?_
  refine AJ_y 11 rfl (by kernel_rfl) (by kernel_rfl) rfl rfl (YJ_loadL rfl tyi_3 m0 rfl) ?_
  refine AJ_call1 12 2 rfl (by kernel_rfl) rfl rfl rfl rfl rfl rfl (make_c (a := (b : Int)) (b := (a : Int)) (c := (-1)) (by simp [newM0, MD.make, MD.link]; try omega) (by simp [newM0, MD.make, MD.link]; try omega) (by simp [newM0, MD.make, MD.link]; try omega) (by simp [newM0, MD.make, MD.link, setAt_len]; try omega) (by simp [newM0, MD.make, MD.link, setAt_len]; try omega) (by simp [newM0, MD.make, MD.link, setAt_len]; try omega) (by simp [newM0, MD.make, MD.link, setAt_len]; try omega)) (fun _ h => nomatch h) (AllIn.sub (And.intro m1 (trivial))) ?_
  show AJ _ _ _ _ _ _ _ _ (_ :: _ :: _ :: _) _
  refine AJ_val (v := .int .i64 3) (rfl) ?_
  refine AJ_y 13 rfl (by kernel_rfl) (by kernel_rfl) rfl rfl (YJ_ixArr rfl rfl arrt_34 (by omega) (by omega) rfl) ?_
  refine AJ_store (cs' := #[_, _, _]) (μ' := [_, _, _]) 14 0 rfl (by kernel_rfl) rfl rfl rfl rfl tyi_3 rfl (Nat.le_of_ble_eq_true rfl) rfl rfl rfl (fun _ => AllIn.sub (And.intro m1 (trivial))) ?_
  refine AJ_done (by kernel_rfl) ?_
  refine QJ_then ?_
  refine CJ_reg ?_
  refine LJ_y rfl rfl (YJ_move rfl) ?_
  refine LJ_y rfl rfl (YJ_move rfl) ?_
  refine LJ_y rfl rfl (YJ_move rfl) ?_
  refine LJ_y rfl rfl (YJ_move rfl) ?_
  refine LJ_y rfl rfl (YJ_ixArr rfl rfl arrt_34 (by omega) (by omega) rfl) ?_
  refine LJ_y rfl rfl (YJ_loadL rfl tyi_3 m0 rfl) ?_
  refine LJ_call1 2 rfl rfl rfl rfl rfl rfl (link_c (t := 0) (i := 2) (u := 3) (j := 2) (f := false) (by simp [newM0, MD.make, MD.link]; try omega) (by simp [newM0, MD.make, MD.link]; try omega) (by decide) (by decide)) (fun _ h => nomatch h) ?_
  show LJ _ _ _ _ _ (_ :: _ :: _ :: _) _
  refine LJ_nil ?_
  refine QJ_in_normal ?_
  refine QJ_then ?_
  refine CJ_reg ?_
  refine LJ_y rfl rfl (YJ_bin rfl rfl (iop_add (by omega))) ?_
  refine LJ_y rfl rfl (YJ_move rfl) ?_
  refine LJ_nil ?_
  refine QJ_thenN ?_
  refine CN_succ ?_
  refine CJ_seq ?_
  refine CJ_reg ?_
  refine LJ_y rfl rfl (YJ_bin rfl rfl rfl) ?_
  refine LJ_nil ?_
  refine QJ_then ?_
  refine CJ_seq ?_
  refine CJ_condF rfl ?_
  refine CJ_exit ?_
  refine QJ_then_exit ?_
  refine QJ_then_exit ?_
  refine QJ_in_exit ?_
  refine QJ_then ?_
  refine CJ_seq ?_
  refine CJ_seq ?_
  refine CJ_reg ?_
  refine LJ_y rfl rfl (YJ_move rfl) ?_
  refine LJ_nil ?_
  refine QJ_then ?_
  refine CJ_block ?_
  refine CJ_loopN 4 ?_
  refine CN_succ ?_
  refine CJ_seq ?_
  refine CJ_reg ?_
  refine LJ_y rfl rfl (YJ_bin rfl rfl rfl) ?_
  refine LJ_nil ?_
  refine QJ_then ?_
  refine CJ_seq ?_
  refine CJ_condT rfl ?_
  refine CJ_skip ?_
  refine QJ_then ?_
  refine CJ_seq ?_
  refine CJ_block ?_
  refine CJ_seq ?_
  refine CJ_reg ?_
  refine LJ_y rfl rfl (YJ_move rfl) ?_
  refine LJ_y rfl rfl (YJ_assign rfl) ?_
  refine LJ_nil ?_
  refine QJ_then ?_
  refine CJ_regD mix (by kernel_rfl) (fun _ _ _ _ _ h => h) (selR [0, 1] _) _ (selR_sub _ _) (fun _ h => h) ?_
  refine AJ_y 0 rfl (by kernel_rfl) (by kernel_rfl) rfl rfl (YJ_move rfl) ?_
  refine AJ_y 1 rfl (by kernel_rfl) (by kernel_rfl) rfl rfl (YJ_move rfl) ?_
  refine AJ_y 2 rfl (by kernel_rfl) (by kernel_rfl) rfl rfl (YJ_ixArr rfl rfl arrt_34 (by omega) (by omega) rfl) ?_
  refine AJ_y 3 rfl (by kernel_rfl) (by kernel_rfl) rfl rfl (YJ_loadL rfl tyi_3 m0 rfl) ?_
  refine AJ_y 4 rfl (by kernel_rfl) (by kernel_rfl) rfl rfl (YJ_move rfl) ?_
  refine AJ_y 5 rfl (by kernel_rfl) (by kernel_rfl) rfl rfl (YJ_bin rfl rfl (iop_add (by omega))) ?_
  refine AJ_y 6 rfl (by kernel_rfl) (by kernel_rfl) rfl rfl (YJ_rem rfl rfl (by first | decide | omega)) ?_
  refine AJ_val (v := .int .i64 1) (rfl) ?_
  refine AJ_y 7 rfl (by kernel_rfl) (by kernel_rfl) rfl rfl (YJ_ixArr rfl rfl arrt_34 (by omega) (by omega) rfl) ?_
  refine AJ_y 8 rfl (by kernel_rfl) (by kernel_rfl) rfl rfl (YJ_loadL rfl tyi_3 m0 rfl) ?_
  refine AJ_call1 9 2 rfl (by kernel_rfl) rfl rfl rfl rfl rfl rfl (link_c (t := 1) (i := 1) (u := 2) (j := 0) (f := false) (by simp [newM0, MD.make, MD.link]; try omega) (by simp [newM0, MD.make, MD.link]; try omega) (by decide) (by decide)) (fun _ h => nomatch h) (AllIn.sub (And.intro m0 (And.intro m1 (trivial)))) ?_
  show AJ _ _ _ _ _ _ _ _ (_ :: _ :: _ :: _) _
  refine AJ_done (by kernel_rfl) ?_
  refine QJ_in_normal ?_
  refine QJ_then ?_
  refine CJ_reg ?_
  refine LJ_y rfl rfl (YJ_bin rfl rfl (iop_add (by omega))) ?_
  refine LJ_y rfl rfl (YJ_move rfl) ?_
  refine LJ_nil ?_
  refine QJ_thenN ?_
  refine CN_succ ?_
  refine CJ_seq ?_
  refine CJ_reg ?_
  refine LJ_y rfl rfl (YJ_bin rfl rfl rfl) ?_
  refine LJ_nil ?_
  refine QJ_then ?_
  refine CJ_seq ?_
  refine CJ_condT rfl ?_
  refine CJ_skip ?_
  refine QJ_then ?_
  refine CJ_seq ?_
  refine CJ_block ?_
  refine CJ_seq ?_
  refine CJ_reg ?_
  refine LJ_y rfl rfl (YJ_move rfl) ?_
  refine LJ_y rfl rfl (YJ_assign rfl) ?_
  refine LJ_nil ?_
  refine QJ_then ?_
  refine CJ_regD mix (by kernel_rfl) (fun _ _ _ _ _ h => h) (selR [0, 1] _) _ (selR_sub _ _) (fun _ h => h) ?_
  refine AJ_y 0 rfl (by kernel_rfl) (by kernel_rfl) rfl rfl (YJ_move rfl) ?_
  refine AJ_y 1 rfl (by kernel_rfl) (by kernel_rfl) rfl rfl (YJ_move rfl) ?_
  refine AJ_y 2 rfl (by kernel_rfl) (by kernel_rfl) rfl rfl (YJ_ixArr rfl rfl arrt_34 (by omega) (by omega) rfl) ?_
  refine AJ_y 3 rfl (by kernel_rfl) (by kernel_rfl) rfl rfl (YJ_loadL rfl tyi_3 m0 rfl) ?_
  refine AJ_y 4 rfl (by kernel_rfl) (by kernel_rfl) rfl rfl (YJ_move rfl) ?_
  refine AJ_y 5 rfl (by kernel_rfl) (by kernel_rfl) rfl rfl (YJ_bin rfl rfl (iop_add (by omega))) ?_
  refine AJ_y 6 rfl (by kernel_rfl) (by kernel_rfl) rfl rfl (YJ_rem rfl rfl (by first | decide | omega)) ?_
  refine AJ_val (v := .int .i64 2) (rfl) ?_
  refine AJ_y 7 rfl (by kernel_rfl) (by kernel_rfl) rfl rfl (YJ_ixArr rfl rfl arrt_34 (by omega) (by omega) rfl) ?_
  refine AJ_y 8 rfl (by kernel_rfl) (by kernel_rfl) rfl rfl (YJ_loadL rfl tyi_3 m0 rfl) ?_
  refine AJ_call1 9 2 rfl (by kernel_rfl) rfl rfl rfl rfl rfl rfl (link_c (t := 2) (i := 1) (u := 3) (j := 0) (f := false) (by simp [newM0, MD.make, MD.link]; try omega) (by simp [newM0, MD.make, MD.link]; try omega) (by decide) (by decide)) (fun _ h => nomatch h) (AllIn.sub (And.intro m0 (And.intro m1 (trivial)))) ?_
  show AJ _ _ _ _ _ _ _ _ (_ :: _ :: _ :: _) _
  refine AJ_done (by kernel_rfl) ?_
  refine QJ_in_normal ?_
  refine QJ_then ?_
  refine CJ_reg ?_
  refine LJ_y rfl rfl (YJ_bin rfl rfl (iop_add (by omega))) ?_
  refine LJ_y rfl rfl (YJ_move rfl) ?_
  refine LJ_nil ?_
  refine QJ_thenN ?_
  refine CN_succ ?_
  refine CJ_seq ?_
  refine CJ_reg ?_
  refine LJ_y rfl rfl (YJ_bin rfl rfl rfl) ?_
  refine LJ_nil ?_
  refine QJ_then ?_
  refine CJ_seq ?_
  refine CJ_condT rfl ?_
  refine CJ_skip ?_
  refine QJ_then ?_
  refine CJ_seq ?_
  refine CJ_block ?_
  refine CJ_seq ?_
  refine CJ_reg ?_
  refine LJ_y rfl rfl (YJ_move rfl) ?_
  refine LJ_y rfl rfl (YJ_assign rfl) ?_
  refine LJ_nil ?_
  refine QJ_then ?_
  refine CJ_regD mix (by kernel_rfl) (fun _ _ _ _ _ h => h) (selR [0, 1] _) _ (selR_sub _ _) (fun _ h => h) ?_
  refine AJ_y 0 rfl (by kernel_rfl) (by kernel_rfl) rfl rfl (YJ_move rfl) ?_
  refine AJ_y 1 rfl (by kernel_rfl) (by kernel_rfl) rfl rfl (YJ_move rfl) ?_
  refine AJ_y 2 rfl (by kernel_rfl) (by kernel_rfl) rfl rfl (YJ_ixArr rfl rfl arrt_34 (by omega) (by omega) rfl) ?_
  refine AJ_y 3 rfl (by kernel_rfl) (by kernel_rfl) rfl rfl (YJ_loadL rfl tyi_3 m0 rfl) ?_
  refine AJ_y 4 rfl (by kernel_rfl) (by kernel_rfl) rfl rfl (YJ_move rfl) ?_
  refine AJ_y 5 rfl (by kernel_rfl) (by kernel_rfl) rfl rfl (YJ_bin rfl rfl (iop_add (by omega))) ?_
  refine AJ_y 6 rfl (by kernel_rfl) (by kernel_rfl) rfl rfl (YJ_rem rfl rfl (by first | decide | omega)) ?_
  refine AJ_val (v := .int .i64 0) (rfl) ?_
  refine AJ_y 7 rfl (by kernel_rfl) (by kernel_rfl) rfl rfl (YJ_ixArr rfl rfl arrt_34 (by omega) (by omega) rfl) ?_
  refine AJ_y 8 rfl (by kernel_rfl) (by kernel_rfl) rfl rfl (YJ_loadL rfl tyi_3 m0 rfl) ?_
  refine AJ_call1 9 2 rfl (by kernel_rfl) rfl rfl rfl rfl rfl rfl (link_c (t := 3) (i := 1) (u := 1) (j := 0) (f := false) (by simp [newM0, MD.make, MD.link]; try omega) (by simp [newM0, MD.make, MD.link]; try omega) (by decide) (by decide)) (fun _ h => nomatch h) (AllIn.sub (And.intro m0 (And.intro m1 (trivial)))) ?_
  show AJ _ _ _ _ _ _ _ _ (_ :: _ :: _ :: _) _
  refine AJ_done (by kernel_rfl) ?_
  refine QJ_in_normal ?_
  refine QJ_then ?_
  refine CJ_reg ?_
  refine LJ_y rfl rfl (YJ_bin rfl rfl (iop_add (by omega))) ?_
  refine LJ_y rfl rfl (YJ_move rfl) ?_
  refine LJ_nil ?_
  refine QJ_thenN ?_
  refine CN_succ ?_
  refine CJ_seq ?_
  refine CJ_reg ?_
  refine LJ_y rfl rfl (YJ_bin rfl rfl rfl) ?_
  refine LJ_nil ?_
  refine QJ_then ?_
  refine CJ_seq ?_
  refine CJ_condF rfl ?_
  refine CJ_exit ?_
  refine QJ_then_exit ?_
  refine QJ_then_exit ?_
  refine QJ_in_exit ?_
  refine QJ_then ?_
  refine CJ_seq ?_
  refine CJ_reg ?_
  refine LJ_y rfl rfl (YJ_move rfl) ?_
  refine LJ_y rfl rfl (YJ_assign rfl) ?_
  refine LJ_y rfl rfl (YJ_assign rfl) ?_
  refine LJ_nil ?_
  refine QJ_then ?_
  refine CJ_ret ?_
  refine QJ_fin (.inl rfl) (μ' := [_]) (μr := [_, _]) (φ' := []) (res_tmp2 rfl rfl rfl) (permI [2] rfl) (fun _ h => nomatch h) ?_
  exact ⟨b1, trivial, rfl, rfl, rfl⟩
end Go.Proofs.Ytbanlhlggkdanaa
namespace Go.Proofs.Ytbanlhlggkdanaa
open Go.RowKit
section
variable {P : Program} (w : World)
theorem run_eqItems_ints {d : Nat} {e : TypeId} {k : IntKind} (he : tyi P e = some (false, 1)) (hk : P.underlying e = some (.int k)) (xs ys : List Int) : ∀ (is : List Nat), (∀ i ∈ is, i < xs.length ∧ i < ys.length) →
  (Op.eqItems (d + 1) e 1 (xs.map (Value.int k)).toArray (ys.map (Value.int k)).toArray is).run P w = .ok (is.all fun i => xs[i]? == ys[i]?) w
 | [], _ => by simp [Op.eqItems]
 | i :: is, h => by
  have h1 := h i (.head _)
  have ih := run_eqItems_ints (d := d) he hk xs ys is (fun j hj => h j (.tail _ hj))
  have p1 : (part e (xs.map (Value.int k)).toArray (i * 1)).run P w = .ok (.int k xs[i]) w := run_part1 he (by rw [lget_eq]; simp [h1.1]) w
  have p2 : (part e (ys.map (Value.int k)).toArray (i * 1)).run P w = .ok (.int k ys[i]) w := run_part1 he (by rw [lget_eq]; simp [h1.2]) w
  simp only [Op.eqItems, Sem.run_bind, p1, p2, Result.andThen_ok, run_equalIn_int w d e k k _ _ hk, List.all_cons]
  rw [List.getElem?_eq_getElem h1.1, List.getElem?_eq_getElem h1.2]
  by_cases e1 : xs[i] = ys[i]
  ·simp [e1, ih]
  ·simp [e1]
end
theorem run_eqArr2 {P : Program} (w : World) {t e : TypeId} {i : TypeInfo} (hu : P.underlying t = some (.array 2 e)) (hi : P.info? e = some i) (hs : P.cellsOf e = 1) (he : tyi P e = some (false, 1)) (hk : P.underlying e = some (.int .i64)) (a b c d : Int) :
  (Op.equalIn 10000 t (.agg #[.int .i64 a, .int .i64 b]) (.agg #[.int .i64 c, .int .i64 d])).run P w = .ok (decide (a = c) && decide (b = d)) w := by
 rw [show (10000 : Nat) = 9999 + 1 from rfl, run_equalIn_array w 9999 _ _ hu hi, hs]
 have := run_eqItems_ints (P := P) w (d := 9998) he hk [a, b] [c, d] (List.range 2) (fun i hi => by simpa using hi)
 refine Eq.trans this ?_
 simp [List.range_succ]
 by_cases h1 : a = c <;> by_cases h2 : b = d <;> simp [h1, h2]
theorem info_int : ∃ i, Try.prog.info? 3 = some i := Option.isSome_iff_exists.1 (by kernel_rfl)
end Go.Proofs.Ytbanlhlggkdanaa
set_option linter.unusedSectionVars false
namespace Go.Proofs.Ytbanlhlggkdanaa
open Go.RowKit
section
variable {κ ν : Type} [DecidableEq κ]
def entV (f : κ → Value) (g : ν → Value) (e : κ × ν × Nat) : MapEntry := { key := f e.1, val := g e.2.1, born := e.2.2 }
theorem erase_map {α β : Type} (h : α → β) : ∀ (l : List α) (i : Nat), (l.map h).eraseIdx i = (l.eraseIdx i).map h
  | [], _ => rfl
  | _ :: _, 0 => rfl
  | x :: l, i + 1 => by simp [erase_map h l i]
def mfind (k : κ) : List (κ × ν × Nat) → Nat → Option (Nat × ν)
  | [], _ => none
  | e :: r, i => if k = e.1 then some (i, e.2.1) else mfind k r (i + 1)
def mget (k : κ) (l : List (κ × ν × Nat)) : Option ν := (mfind k l 0).map (·.2)
def mput (k : κ) (v : ν) (l : List (κ × ν × Nat)) (c : Nat) : List (κ × ν × Nat) := match mfind k l 0 with
  | some (i, _) => l.modify i (fun e => (e.1, v, e.2.2))
  | none => l ++ [(k, v, c)]
def mclk (k : κ) (l : List (κ × ν × Nat)) (c : Nat) : Nat := match mfind k l 0 with
  | some _ => c
  | none => c + 1
def mdel (k : κ) (l : List (κ × ν × Nat)) : List (κ × ν × Nat) := match mfind k l 0 with
  | some (i, _) => l.eraseIdx i
  | none => l
theorem mfind_key {k : κ} : ∀ {l : List (κ × ν × Nat)} {b i : Nat} {v : ν}, mfind k l b = some (i, v) → b ≤ i ∧ ∃ e, l[i - b]? = some e ∧ e.1 = k ∧ e.2.1 = v
  | [], b, i, v, h => by simp [mfind] at h
  | e :: r, b, i, v, h => by
    unfold mfind at h
    split at h
    · rename_i hk
      simp only [Option.some.injEq, Prod.mk.injEq] at h
      obtain ⟨rfl, rfl⟩ := h
      exact ⟨Nat.le_refl _, e, by simp, hk.symm, rfl⟩
    · obtain ⟨h1, e', h2, h3, h4⟩ := mfind_key h
      refine ⟨by omega, e', ?_, h3, h4⟩
      rw [show i - b = (i - (b + 1)) + 1 by omega]
      simpa using h2
structure KeyT (P : Program) (kt : TypeId) (f : κ → Value) : Prop where
  chk : ∀ (e : Bool) (k : κ) (w : World), (Instr.checkKey e 10000 kt (f k)).run P w = .ok () w
  find : ∀ {ν : Type} (g : ν → Value) (k : κ) (l : List (κ × ν × Nat)) (w : World), (Instr.findKey kt (f k) (l.map (entV f g))).run P w = .ok ((mfind k l 0).map fun p => (p.1, g p.2)) w
  same : ∀ k, Instr.sameBits 10000 (f k) (f k) = true
theorem run_findAsk {P : Program} {kt : TypeId} {f : κ → Value} (hE : ∀ a b w, (Op.equal kt (f a) (f b)).run P w = .ok (decide (a = b)) w) (g : ν → Value) (k : κ) :
    ∀ (l : List (κ × ν × Nat)) (i : Nat) (w : World), (Instr.findAsking kt (f k) (l.map (entV f g)) i).run P w = .ok ((mfind k l i).map fun p => (p.1, g p.2)) w
  | [], i, w => by simp [Instr.findAsking, mfind]
  | e :: r, i, w => by
    have ih := run_findAsk hE g k r (i + 1) w
    simp only [List.map_cons, Instr.findAsking, Sem.run_bind]
    rw [show (entV f g e).key = f e.1 from rfl, hE k e.1 w]
    unfold mfind
    by_cases hk : k = e.1
    · simp [hk, entV]
    · simp only [hk, decide_false, Result.andThen_ok, if_false]
      exact ih
def mapR (r : Nat) (f : κ → Value) (g : ν → Value) (l : List (κ × ν × Nat)) (c : Nat) : Res := objR r (.map (l.map (entV f g)).toArray c)
end
theorem keyInt {P : Program} {kt : TypeId} {q : IntKind} (hu : P.underlying kt = some (.int q)) : KeyT P kt (fun (x : Int) => Value.int .i64 x) where
  chk e k w := by
    rw [show (10000 : Nat) = 9999 + 1 from rfl]
    generalize 9999 = n
    simp [Instr.checkKey, run_underlying hu]
  find := fun {ν} g k l w => by
    have key : ∀ (l : List (Int × ν × Nat)) (i : Nat), Instr.findNow (.int q) (.int .i64 k) (l.map (entV (fun (x : Int) => Value.int .i64 x) g)) i = some ((mfind k l i).map fun p => (p.1, g p.2)) := by
      intro l
      induction l with
      | nil => intro i; rfl
      | cons e r ih =>
        intro i
        simp only [List.map_cons, Instr.findNow, entV, Instr.sameNow, if_true]
        unfold mfind
        by_cases hk : k = e.1
        · simp [hk]
        · have : (k == e.1) = false := by simpa using hk
          simp only [this, hk, if_false]
          exact ih (i + 1)
    simp [Instr.findKey, run_underlying hu, key]
  same k := by
    rw [show (10000 : Nat) = 9999 + 1 from rfl]
    generalize 9999 = n
    simp [Instr.sameBits]
theorem keyTwo {P : Program} {kt : TypeId} (hw : (match P.underlying kt with | some (.array _ _) | some (.struct _) => true | _ => false) = true)
    (hc : ∀ (e : Bool) (a b : Int) (w : World), (Instr.checkKey e 10000 kt (.agg #[.int .i64 a, .int .i64 b])).run P w = .ok () w)
    (hE : ∀ (a b c d : Int) (w : World), (Op.equal kt (.agg #[.int .i64 a, .int .i64 b]) (.agg #[.int .i64 c, .int .i64 d])).run P w = .ok (decide (a = c) && decide (b = d)) w) : KeyT P kt (fun (x : Int × Int) => Value.agg #[.int .i64 x.1, .int .i64 x.2]) where
  chk e k w := hc e k.1 k.2 w
  find := fun {ν} g k l w => by
    rw [run_findKey_eq w hw]
    refine run_findAsk (f := fun (x : Int × Int) => Value.agg #[.int .i64 x.1, .int .i64 x.2]) (fun a b w => ?_) g k l 0 w
    rw [hE]
    congr 1
    by_cases h1 : a.1 = b.1 <;> by_cases h2 : a.2 = b.2 <;> simp [Prod.ext_iff, h1, h2]
  same k := by
    rw [show (10000 : Nat) = 9998 + 1 + 1 from rfl]
    generalize 9998 = n
    simp [Instr.sameBits]
section
variable {κ ν : Type} [DecidableEq κ] {f : κ → Value} {g : ν → Value} {l : List (κ × ν × Nat)} {c r : Nat}
variable {E : Env} {ty : TypeId} {σ : List (Nat × Value)} {μ φ : List Res}
def MapAt (μ φ : List Res) (r : Nat) (es : Array MapEntry) (c : Nat) : Prop := ∀ w, Hold w μ → Hold w φ → w.heap[r]? = some (.map es c)
theorem MapAt_own (hm : mapR r f g l c ∈ μ) : MapAt μ φ r (l.map (entV f g)).toArray c := fun w h1 _ => by
  obtain ⟨S, h, _⟩ := h1 _ hm
  exact h
theorem MapAt_fact (hm : mapR r f g l c ∈ φ) : MapAt μ φ r (l.map (entV f g)).toArray c := fun w _ h2 => by
  obtain ⟨S, h, _⟩ := h2 _ hm
  exact h
theorem OJ_makeMap {t : TypeId} : OJ E (.makeMap t none) ty σ μ φ (fun v μ' φ' => ∃ b, v = .map (some b) ∧ μ' = objR b (.map #[] 0) :: μ ∧ φ' = φ) := fun a w d pos af gd K Q hs hm hK => by
  have : (execOp a.eval ⟨d, .makeMap t none, ty, pos, af, gd⟩).run E.P w = .ok (.value (.map (some w.heap.size))) (w.alloc (.map #[] 0)) := by
    simp only [execOp, Option.map_none]
    simp [Instr.makeMap, run_newObj_alloc]
  unfold Oper.wp
  rw [this, Oper.upon_value]
  exact hK _ _ _ _ ⟨w.heap.size, rfl, rfl, rfl⟩ (hm.newObj _)
theorem run_lookup {P : Program} {t kt et : TypeId} {z : Value} {w : World} {k : κ} (hu : P.underlying t = some (.map kt et)) (hK : KeyT P kt f) (hz : zer P et = some z) (hb : w.heap[r]? = some (.map (l.map (entV f g)).toArray c)) (ok : Bool) :
    (Instr.lookup t (.map (some r)) (f k) ok).run P w = .ok (if ok then .tuple #[((mget k l).map g).getD z, .bool (mget k l).isSome] else ((mget k l).map g).getD z) w := by
  have h1 := hK.chk (l.map (entV f g)).toArray.isEmpty k w
  have h2 := hK.find g k l w
  simp only [Instr.lookup, Sem.run_bind, run_underlying hu, Result.andThen_ok, MapKept.run_getObj_map hb, Sem.run_pure, h1, h2]
  unfold mget
  cases hf : mfind k l 0 with
  | none => cases ok <;> simp [run_zeroValue' hz]
  | some p => cases ok <;> simp
theorem YJ_lookup {t kt et : TypeId} {x y : Operand} {z : Value} {k : κ} {ok : Bool} {v : Value} (hx : oev σ x = some (.map (some r))) (hy : oev σ y = some (f k)) (hu : E.P.underlying t = some (.map kt et)) (hK : KeyT E.P kt f) (hz : zer E.P et = some z) (hm : MapAt μ φ r (l.map (entV f g)).toArray c)
    (hv : (if ok then .tuple #[((mget k l).map g).getD z, .bool (mget k l).isSome] else ((mget k l).map g).getD z) = v) : YJ E (.lookup t x y ok) ty σ μ φ v := fun a w d pos af gd hs h1 h2 => by
  subst hv
  simp only [execOp, hs.ev hx, hs.ev hy]
  simp [run_lookup (k := k) hu hK hz (hm w h1 h2) ok]
theorem YJ_lenMap {x : Operand} {t kt et : TypeId} {n : Nat} (hx : oev σ x = some (.map (some r))) (hu : E.P.underlying t = some (.map kt et)) (hm : MapAt μ φ r (l.map (entV f g)).toArray c) (hn : l.length = n) :
    YJ E (.call { callee := .builtin .len, args := #[x], argTypes := #[t] }) ty σ μ φ (.int .i64 n) := fun a w d pos af gd hs h1 h2 => by
  subst hn
  simp only [execOp, hs.ev hx]
  have hb := hm w h1 h2
  simp [resolve, invoke, builtin, hs.ev hx, Builtin.len_, run_underlying hu, MapKept.run_getObj_map hb, goInt]
theorem OJ_putObj {k : Nat} {op : Op} {b : Nat} {o o' : Obj} (hk : μ[k]? = some (objR b o)) {nx : Next} {v : Value} (hnx : nx = .skip ∨ nx = .value v)
    (hr : ∀ a w d pos af gd, Slots σ a → OKm E μ φ w → w.heap[b]? = some o → (execOp a.eval ⟨d, op, ty, pos, af, gd⟩).run E.P w = .ok nx (w.putObj b o')) :
    OJ E op ty σ μ φ (fun u μ' φ' => (nx = .value v → u = v) ∧ μ' = μ.set k (objR b o') ∧ φ' = φ) := fun a w d pos af gd K Q hs hm hK => by
  have h1 : OKm E (objR b o :: μ.eraseIdx k) φ w := hm.weak (μr := []) (by simpa using perm_at hk) (fun _ h => h)
  have h2 := hr a w d pos af gd hs hm h1.objAt
  have h3 : OKm E (μ.set k (objR b o')) φ (w.putObj b o') := (h1.putObj o').weak (μr := []) (by simpa using perm_set _ hk) (fun _ h => h)
  unfold Oper.wp
  rcases hnx with rfl | rfl
  · rw [h2, Oper.upon_skip]
    exact hK _ _ _ _ ⟨(fun h => nomatch h), rfl, rfl⟩ h3
  · rw [h2, Oper.upon_value]
    exact hK _ _ _ _ ⟨fun _ => rfl, rfl, rfl⟩ h3
theorem modify_ent {l : List (κ × ν × Nat)} {i : Nat} {v : ν} {e : κ × ν × Nat} (he : l[i]? = some e) : (l.map (entV f g)).toArray.modify i (fun q => { q with key := f e.1, val := g v }) = ((l.modify i (fun e => (e.1, v, e.2.2))).map (entV f g)).toArray := by
  apply Array.toList_inj.1
  apply List.ext_getElem?
  intro j
  simp only [Array.toList_modify, List.getElem?_modify, List.getElem?_map]
  by_cases hj : i = j
  · subst hj
    simp [he, entV]
  · simp [hj]
theorem OJ_mapUpdate {t kt et : TypeId} {x y z : Operand} {k : κ} {v : ν} {l' : List (κ × ν × Nat)} {c' : Nat} (n : Nat) (hk : μ[n]? = some (mapR r f g l c)) (hx : oev σ x = some (.map (some r))) (hy : oev σ y = some (f k)) (hz : oev σ z = some (g v)) (hu : E.P.underlying t = some (.map kt et)) (hK : KeyT E.P kt f)
    (hl : mput k v l c = l') (hc : mclk k l c = c') : OJ E (.mapUpdate t x y z) ty σ μ φ (fun _ μ' φ' => μ' = μ.set n (mapR r f g l' c') ∧ φ' = φ) := by
  subst hl; subst hc
  refine OJ_conv (OJ_putObj (o' := .map ((mput k v l c).map (entV f g)).toArray (mclk k l c)) hk (nx := .skip) (v := undef) (.inl rfl) ?_) (fun u μ' φ' h => ⟨_, ⟨h.2.1, h.2.2⟩, List.Perm.refl _⟩)
  intro a w d pos af gd hs hm hb
  have h1 := hK.chk false k w
  have h2 := hK.find g k l w
  simp only [execOp, hs.ev hx, hs.ev hy, hs.ev hz]
  simp only [Instr.mapUpdate, Sem.run_bind, run_underlying hu, Result.andThen_ok, MapKept.run_getObj_map hb, h1, h2]
  unfold mput mclk
  cases hf : mfind k l 0 with
  | none =>
    simp only [Option.map_none, MapKept.run_setObj_map _ hb]
    simp [World.putObj, entV]
  | some p =>
    obtain ⟨i, v0⟩ := p
    obtain ⟨_, e, he, hek, _⟩ := mfind_key hf
    simp only [Nat.sub_zero] at he
    have hkey : ((((l.map (entV f g)).toArray)[i]?).map (·.key)).getD (f k) = f k := by
      simp [he, entV, hek]
    have hks : (Instr.keyThatStays (f k) (f k)).run E.P w = .ok (f k) w := by
      unfold Instr.keyThatStays
      simp [hK.same k]
    have hmod := modify_ent (f := f) (g := g) (v := v) he
    rw [hek] at hmod
    simp only [Option.map_some, Sem.run_bind, hkey, hks, Result.andThen_ok, MapKept.run_setObj_map _ hb]
    simp only [World.putObj, hmod]
    rfl
theorem OJ_delete {t kt et t2 : TypeId} {x y : Operand} {k : κ} {l' : List (κ × ν × Nat)} (n : Nat) (hk : μ[n]? = some (mapR r f g l c)) (hx : oev σ x = some (.map (some r))) (hy : oev σ y = some (f k)) (hu : E.P.underlying t = some (.map kt et)) (hK : KeyT E.P kt f)
    (hl : mdel k l = l') : OJ E (.call { callee := .builtin .delete, args := #[x, y], argTypes := #[t, t2] }) ty σ μ φ (fun v μ' φ' => v = .tuple #[] ∧ μ' = μ.set n (mapR r f g l' c) ∧ φ' = φ) := by
  subst hl
  refine OJ_conv (OJ_putObj (o' := .map ((mdel k l).map (entV f g)).toArray c) hk (nx := .value (.tuple #[])) (v := .tuple #[]) (.inr rfl) ?_) (fun u μ' φ' h => ⟨_, ⟨h.1 rfl, h.2.1, h.2.2⟩, List.Perm.refl _⟩)
  intro a w d pos af gd hs hm hb
  have h1 := hK.chk (l.map (entV f g)).toArray.isEmpty k w
  have h2 := hK.find g k l w
  simp only [execOp, resolve, invoke, builtin, Sem.run_bind, Sem.run_pure, Result.andThen_ok, List.map_toArray, List.map_cons, List.map_nil, hs.ev hx, hs.ev hy]
  simp only [Builtin.delete_, Sem.run_bind, List.getElem?_toArray, List.getElem?_cons_zero, List.getElem?_cons_succ, run_underlying hu, Result.andThen_ok, MapKept.run_getObj_map hb, h1, h2]
  unfold mdel
  cases hf : mfind k l 0 with
  | none =>
    simp [MapKept.run_setObj_map _ hb, World.putObj]
  | some p =>
    obtain ⟨i, v0⟩ := p
    have : ((l.map (entV f g)).toArray).eraseIdxIfInBounds i = ((l.eraseIdx i).map (entV f g)).toArray := by
      apply Array.toList_inj.1
      simp [erase_map]
    simp [MapKept.run_setObj_map _ hb, World.putObj, this]
def itR (it r since : Nat) (seen : List Nat) (c0 : Nat) : Res := objR it (.mapIter (some r) since seen.toArray c0)
theorem OJ_range {t kt et : TypeId} {x : Operand} (hx : oev σ x = some (.map (some r))) (hu : E.P.underlying t = some (.map kt et)) (hm : MapAt μ φ r (l.map (entV f g)).toArray c) :
    OJ E (.range t x) ty σ μ φ (fun v μ' φ' => ∃ b, v = .pointer (some ⟨b, 0, none⟩) ∧ μ' = itR b r c [] c :: μ ∧ φ' = φ) := fun a w d pos af gd K Q hs hm0 hK => by
  have hb := hm w hm0.hold.1 hm0.hold.2
  have : (execOp a.eval ⟨d, .range t x, ty, pos, af, gd⟩).run E.P w = .ok (.value (.pointer (some ⟨w.heap.size, 0, none⟩))) (w.alloc (.mapIter (some r) c #[] c)) := by
    simp only [execOp, hs.ev hx]
    simp [run_range_map w t kt et r _ c hu hb]
  unfold Oper.wp
  rw [this, Oper.upon_value]
  exact hK _ _ _ _ ⟨w.heap.size, rfl, rfl, rfl⟩ (hm0.newObj _)
def leftL (l : List (κ × ν × Nat)) (seen : List Nat) : List (κ × ν × Nat) := l.filter fun e => !seen.contains e.2.2
theorem left_map (l : List (κ × ν × Nat)) (seen : List Nat) : (leftOf (l.map (entV f g)).toArray seen.toArray).toList = (leftL l seen).map (entV f g) := by
  unfold leftOf leftL
  rw [Array.toList_filter]
  simp only [List.contains_toArray]
  induction l with
  | nil => rfl
  | cons e l ih =>
    simp only [List.map_cons, List.filter_cons]
    rw [show (entV f g e).born = e.2.2 from rfl, ih]
    split <;> rfl
theorem OJ_next {x : Operand} {it since c0 : Nat} {seen : List Nat} (n : Nat) (hk : μ[n]? = some (itR it r since seen c0)) (hx : oev σ x = some (.pointer (some ⟨it, 0, none⟩))) (hm : MapAt μ φ r (l.map (entV f g)).toArray c)
    (hold : ∀ e ∈ l, e.2.2 < since) (hsc : since ≤ c0) :
    OJ E (.next x false) ty σ μ φ (fun v μ' φ' => (leftL l seen = [] ∧ v = .tuple #[.bool false] ∧ μ' = μ ∧ φ' = φ) ∨
      ∃ e ∈ leftL l seen, v = .tuple #[.bool true, f e.1, g e.2.1] ∧ μ' = μ.set n (itR it r since (seen ++ [e.2.2]) c) ∧ φ' = φ) := fun a w d pos af gd K Q hs hm0 hK => by
  have h1 : OKm E (objR it (.mapIter (some r) since seen.toArray c0) :: μ.eraseIdx n) φ w := hm0.weak (μr := []) (by rw [List.append_nil]; exact perm_at hk) (fun _ h => h)
  have hb := hm w hm0.hold.1 hm0.hold.2
  have hh : ∀ e' ∈ (l.map (entV f g)).toArray.toList, e'.born < since := by
    intro e' he'
    simp only [List.mem_map] at he'
    obtain ⟨e, he, rfl⟩ := he'
    exact hold e he
  rcases run_next_at (P := E.P) w ty it r since c0 seen.toArray _ c h1.objAt hb hh hsc with ⟨h0, hr⟩ | ⟨e', he', w1, hw1, hr⟩
  · have : (execOp a.eval ⟨d, .next x false, ty, pos, af, gd⟩).run E.P w = .ok (.value (.tuple #[.bool false])) w := by
      simp only [execOp, hs.ev hx]
      simp [hr]
    unfold Oper.wp
    rw [this, Oper.upon_value]
    refine hK _ _ _ _ (.inl ⟨?_, rfl, rfl, rfl⟩) hm0
    have e0 : (leftOf (l.map (entV f g)).toArray seen.toArray).toList.length = 0 := by simpa using h0
    rw [left_map] at e0
    simpa using e0
  · rw [left_map] at he'
    obtain ⟨e, he, rfl⟩ := List.mem_map.1 he'
    have : (execOp a.eval ⟨d, .next x false, ty, pos, af, gd⟩).run E.P w = .ok (.value (.tuple #[.bool true, f e.1, g e.2.1])) (w1.putObj it (.mapIter (some r) since (seen ++ [e.2.2]).toArray c)) := by
      simp only [execOp, hs.ev hx]
      simp [hr, entV, ChangeMaps.setBlock, World.putObj]
    unfold Oper.wp
    rw [this, Oper.upon_value]
    have h2 : OKm E (objR it (.mapIter (some r) since seen.toArray c0) :: μ.eraseIdx n) φ w1 := by
      rcases hw1 with rfl | rfl
      · exact h1
      · exact h1.drew
    exact hK _ _ _ _ (.inr ⟨e, he, rfl, rfl, rfl⟩) ((h2.putObj _).weak (μr := []) (by rw [List.append_nil]; exact perm_set _ hk) (fun _ h => h))
theorem YJ_entry {x : Operand} {it since : Nat} {seen : List Nat} {e : κ × ν × Nat} (hx : oev σ x = some (.pointer (some ⟨it, 0, none⟩))) (hit : itR it r since (seen ++ [e.2.2]) c ∈ μ) (hm : MapAt μ φ r (l.map (entV f g)).toArray c) (he : e ∈ l) (hn : (l.map (·.2.2)).Nodup) :
    YJ E (.entry x) ty σ μ φ (.tuple #[f e.1, g e.2.1]) := fun a w d pos af gd hs h1 h2 => by
  obtain ⟨S, h, _⟩ := h1 _ hit
  have hb := hm w h1 h2
  have h' : w.heap[it]? = some (.mapIter (some r) since (seen.toArray.push (entV f g e).born) c) := by
    rw [h]
    simp [entV]
  have := run_entry_at (P := E.P) w it r since seen.toArray _ c (entV f g e) h' hb (by simpa using ⟨e.1, e.2.1, e.2.2, he, rfl⟩) (by
    have e1 : (l.map (entV f g)).toArray.toList.map (·.born) = l.map (·.2.2) := by simp [entV, Function.comp_def]
    rw [e1]; exact hn)
  simp only [execOp, hs.ev hx]
  simp [this, entV]
variable {Q : Qt} {ops : Array Oper} {rest : List Oper} {d : Tmp} {pos : String} {af : Array Edge} {gd : Option (Nat × Bool)} {ml pl : List Res} {fuel : Nat} {listed : Array Bool} {M : List (Res × List Nat)}
theorem LJ_makeMap {t : TypeId} (hg : grd ops σ gd = some true) (hd : Nat.blt d E.N = true) (h : ∀ b, LJ E Q ops rest ((d, .map (some b)) :: σ) (objR b (.map #[] 0) :: μ) φ) : LJ E Q ops (⟨some d, .makeMap t none, ty, pos, af, gd⟩ :: rest) σ μ φ :=
  LJ_o hg hd OJ_makeMap (by rintro _ _ _ ⟨b, rfl, rfl, rfl⟩; exact h b)
theorem LJ_mapUpdate {t kt et : TypeId} {x y z : Operand} {k : κ} {v : ν} {l' : List (κ × ν × Nat)} {c' : Nat} (n : Nat) (hg : grd ops σ gd = some true) (hk : μ[n]? = some (mapR r f g l c)) (hx : oev σ x = some (.map (some r))) (hy : oev σ y = some (f k)) (hz : oev σ z = some (g v)) (hu : E.P.underlying t = some (.map kt et)) (hK : KeyT E.P kt f)
    (hl : mput k v l c = l') (hc : mclk k l c = c') (h : LJ E Q ops rest σ (μ.set n (mapR r f g l' c')) φ) : LJ E Q ops (⟨none, .mapUpdate t x y z, ty, pos, af, gd⟩ :: rest) σ μ φ :=
  LJ_o0 hg (OJ_mapUpdate n hk hx hy hz hu hK hl hc) (by rintro _ _ _ ⟨rfl, rfl⟩; exact h)
theorem AJ_mapUpdate {t kt et : TypeId} {x y z : Operand} {k : κ} {v : ν} {l' : List (κ × ν × Nat)} {c' : Nat} (i n : Nat) (hi : ops[i]? = some ⟨none, .mapUpdate t x y z, ty, pos, af, gd⟩) (hr : Region.ready .any ops listed = [i]) (hg : grd ops σ gd = some true) (hk : μ[n]? = some (mapR r f g l c)) (hx : oev σ x = some (.map (some r))) (hy : oev σ y = some (f k)) (hz : oev σ z = some (g v)) (hu : E.P.underlying t = some (.map kt et)) (hK : KeyT E.P kt f)
    (hl : mput k v l c = l') (hc : mclk k l c = c') (hml : ∀ q, q ∈ ml → q ∈ μ.set n (mapR r f g l' c')) (h : AJ E Q ops ml pl fuel (listed.setIfInBounds i true) σ (μ.set n (mapR r f g l' c')) φ) : AJ E Q ops ml pl (fuel + 1) listed σ μ φ :=
  AJ_o0 i hi hr hg (OJ_mapUpdate n hk hx hy hz hu hK hl hc) (by rintro _ _ _ ⟨rfl, rfl⟩; exact ⟨fun _ => hml, fun _ _ h => h, h⟩)
theorem LJ_delete {t kt et t2 : TypeId} {x y : Operand} {k : κ} {l' : List (κ × ν × Nat)} (n : Nat) (hg : grd ops σ gd = some true) (hk : μ[n]? = some (mapR r f g l c)) (hx : oev σ x = some (.map (some r))) (hy : oev σ y = some (f k)) (hu : E.P.underlying t = some (.map kt et)) (hK : KeyT E.P kt f)
    (hl : mdel k l = l') (h : LJ E Q ops rest σ (μ.set n (mapR r f g l' c)) φ) : LJ E Q ops (⟨none, .call { callee := .builtin .delete, args := #[x, y], argTypes := #[t, t2] }, ty, pos, af, gd⟩ :: rest) σ μ φ :=
  LJ_o0 hg (OJ_delete n hk hx hy hu hK hl) (by rintro _ _ _ ⟨_, rfl, rfl⟩; exact h)
theorem LJ_range {t kt et : TypeId} {x : Operand} (hg : grd ops σ gd = some true) (hd : Nat.blt d E.N = true) (hx : oev σ x = some (.map (some r))) (hu : E.P.underlying t = some (.map kt et)) (hm : MapAt μ φ r (l.map (entV f g)).toArray c)
    (h : ∀ b, LJ E Q ops rest ((d, .pointer (some ⟨b, 0, none⟩)) :: σ) (itR b r c [] c :: μ) φ) : LJ E Q ops (⟨some d, .range t x, ty, pos, af, gd⟩ :: rest) σ μ φ :=
  LJ_o hg hd (OJ_range hx hu hm) (by rintro _ _ _ ⟨b, rfl, rfl, rfl⟩; exact h b)
theorem LJ_next {x : Operand} {it since c0 : Nat} {seen : List Nat} (n : Nat) (hg : grd ops σ gd = some true) (hd : Nat.blt d E.N = true) (hk : μ[n]? = some (itR it r since seen c0)) (hx : oev σ x = some (.pointer (some ⟨it, 0, none⟩))) (hm : MapAt μ φ r (l.map (entV f g)).toArray c)
    (hold : ∀ e ∈ l, e.2.2 < since) (hsc : since ≤ c0) (h0 : leftL l seen = [] → LJ E Q ops rest ((d, .tuple #[.bool false]) :: σ) μ φ) (h1 : ∀ e, e ∈ leftL l seen → LJ E Q ops rest ((d, .tuple #[.bool true, f e.1, g e.2.1]) :: σ) (μ.set n (itR it r since (seen ++ [e.2.2]) c)) φ) : LJ E Q ops (⟨some d, .next x false, ty, pos, af, gd⟩ :: rest) σ μ φ :=
  LJ_o hg hd (OJ_next n hk hx hm hold hsc) (by rintro _ _ _ (⟨h, rfl, rfl, rfl⟩ | ⟨e, he, rfl, rfl, rfl⟩); exact h0 h; exact h1 e he)
theorem LJ_callP {ι : Type} {C : ι → Prop} {fv : ι → Value} {mf gf : ι → List Res} {x : Operand} {xs : Array Operand} {at_ : Array TypeId} {fn : FuncId} {cap : Array Value} {vs vs' : List Value} {μ1 μr φ1 : List Res} (hp : List.Perm μ (μ1 ++ μr)) (hg : grd ops σ gd = some true) (hd : Nat.blt d E.N = true) (hx : oev σ x = some (.func (.func fn) #[] cap)) (hxs : oevs σ xs.toList = some vs) (hv : vs ++ cap.toList = vs')
    (ht : Tri E.P fn vs' μ1 φ1 (RetX C fv mf gf)) (hφ : ∀ r, r ∈ φ1 → r ∈ φ) (h : ∀ x, C x → LJ E Q ops rest ((d, fv x) :: σ) (mf x ++ μr) (gf x ++ φ)) : LJ E Q ops (⟨some d, .call { callee := .value x, args := xs, argTypes := at_ }, ty, pos, af, gd⟩ :: rest) σ μ φ := by
  subst hv
  exact LJ_o hg hd (OJ_call hx hxs ht hp hφ) (by rintro _ _ _ ⟨_, _, ⟨x, hc, rfl, rfl, rfl⟩, rfl, rfl⟩; exact h x hc)
theorem AJ_callP {ι : Type} {C : ι → Prop} {fv : ι → Value} {mf gf : ι → List Res} {x : Operand} {xs : Array Operand} {at_ : Array TypeId} {fn : FuncId} {cap : Array Value} {vs vs' : List Value} {μ1 μr φ1 : List Res} (i : Nat) (hi : ops[i]? = some ⟨some d, .call { callee := .value x, args := xs, argTypes := at_ }, ty, pos, af, gd⟩) (hr : Region.ready .any ops listed = [i]) (hp : List.Perm μ (μ1 ++ μr)) (hg : grd ops σ gd = some true) (hd : Nat.blt d E.N = true) (hx : oev σ x = some (.func (.func fn) #[] cap)) (hxs : oevs σ xs.toList = some vs) (hv : vs ++ cap.toList = vs')
    (ht : Tri E.P fn vs' μ1 φ1 (RetX C fv mf gf)) (hφ : ∀ r, r ∈ φ1 → r ∈ φ) (hml : ∀ x q, q ∈ ml → q ∈ mf x ++ μr) (h : ∀ x, C x → AJ E Q ops ml pl fuel (listed.setIfInBounds i true) ((d, fv x) :: σ) (mf x ++ μr) (gf x ++ φ)) : AJ E Q ops ml pl (fuel + 1) listed σ μ φ := by
  subst hv
  exact AJ_o i hi hr hg hd (OJ_call hx hxs ht hp hφ) (by rintro _ _ _ ⟨_, _, ⟨x, hc, rfl, rfl, rfl⟩, rfl, rfl⟩; exact ⟨fun q hq _ => hml x q hq, fun _ _ h => List.mem_append_right _ h, h x hc⟩)
end
section
variable {E : Env} {Q : Qt} {ops : Array Oper} {ml pl : List Res} {A : List Al} {fuel : Nat} {L : Array Bool} {σ : List (Nat × Value)} {μ φ : List Res}
theorem AA_oN {ι : Type} {C : ι → Prop} {fv : ι → Value} {mf gf : ι → List Res} (i : Nat) {d : Tmp} {op : Op} {ty : TypeId} {pos : String} {af : Array Edge} {g : Option (Nat × Bool)} (hi : ops[i]? = some ⟨some d, op, ty, pos, af, g⟩)
    (hc : allBits A.length (fun bs => (Region.ready .any ops (lsB A bs L)).all (fun j => Nat.beq j i || (pendB A bs).contains j) && !(Region.ready .any ops (lsB A bs L)).isEmpty) = true)
    (hfr : Frs σ A = true)
    (hg : grd ops σ g = some true) (hd : Nat.blt d E.N = true) (hda : (dsts A).contains d = false) (ho : ∀ μ', OJ E op ty σ μ' φ (fun v μ'' φ' => ∃ x, C x ∧ v = fv x ∧ μ'' = mf x ++ μ' ∧ φ' = gf x ++ φ))
    (h : ∀ x, C x → AA E Q ops ml pl A fuel (L.setIfInBounds i true) ((d, fv x) :: σ) (mf x ++ μ) (gf x ++ φ)) : AA E Q ops ml pl A (fuel + 1) L σ μ φ := fun hok hnd hsz hsel hQ hml hpl => by
  have main : ∀ n st, pend st = n → st.length = A.length → ∀ a w, OKa E σ a → Slots (σA A st) a → OKm E (μA A st ++ μ) φ w → wpAnyH E.P .any ops Q (fun w => Hold w ml ∧ Hold w pl) (fuel + 1 + pend st) (lsB A (bts st) L) a w := by
    intro n
    induction n with
    | zero => ?_
    | succ n ih => ?_
    all_goals
      intro st hn hst a w ha hs hm
      have hcc := allBits_spec _ _ hc (bts st) (by simpa [bts] using hst)
      simp only [Bool.and_eq_true, Bool.not_eq_true', List.all_eq_true, Bool.or_eq_true] at hcc
      rw [show fuel + 1 + pend st = (fuel + pend st) + 1 by omega]
      refine wpAnyH_all rfl (fun e => by rw [e] at hcc; simp at hcc) fun j hj => ?_
      by_cases hji : j = i
      · subst hji
        unfold wpOp
        rw [hi]
        dsimp only
        rw [if_pos (grd_wanted (o := ⟨some d, op, ty, pos, af, g⟩) ha hg)]
        refine .inl (ho (μA A st ++ μ) a w _ _ _ _ _ _ ha.slots hm ?_)
        rintro v μ' φ' w' ⟨x, hC, rfl, rfl, rfl⟩ hm0
        have hm' : OKm E (μA A st ++ (mf x ++ μ)) (gf x ++ φ) w' := hm0.weak (μr := []) (by rw [List.append_nil, ← List.append_assoc, ← List.append_assoc]; exact List.perm_append_comm.append_right μ) (fun _ h => h)
        have hin : ∀ r, r ∈ ml → r ∈ μA A st ++ (mf x ++ μ) := fun r hr => List.mem_append_right _ (List.mem_append_right _ (hml r hr))
        have e2 : ∀ r, r ∈ pl → r ∈ gf x ++ φ := fun r hr => List.mem_append_right _ (hpl r hr)
        have hrec := h x hC hok hnd hsz hsel hQ (fun r hr => List.mem_append_right _ (hml r hr)) e2 st hst (a.put (some d) (fv x)) w' (ha.put hd (fv x)) (hs.putA hda (fv x)) hm'
        rw [lsB_set] at hrec
        exact ⟨⟨hm'.hold.1.sub hin, hm'.hold.2.sub e2⟩, hrec⟩
      · have hjp : j ∈ pendB A (bts st) := by
          rcases hcc.1 j hj with h' | h'
          · exact absurd (Nat.eq_of_beq_eq_true h') hji
          · exact List.contains_iff_mem.1 h'
        refine AA_alloc hok hnd hfr hsz hml hpl hst hjp ha hs hm ?_
        intro st' hst' hp' a' w' ha' hs' hm' _
        first
          | (exfalso; omega)
          | (have := ih st' (by omega) hst' a' w' ha' hs' hm'
             rw [show fuel + pend st = fuel + 1 + pend st' by omega]
             exact this)
  intro st hst a w ha hs hm
  exact main _ st rfl hst a w ha hs hm
theorem AA_callN {ι : Type} {C : ι → Prop} {fv : ι → Value} {rf : ι → Res} {gf : ι → List Res} {d : Tmp} {ty : TypeId} {pos : String} {af : Array Edge} {g : Option (Nat × Bool)} {x : Operand} {xs : Array Operand} {at_ : Array TypeId} {fn : FuncId} {cap : Array Value} {vs vs' : List Value} {φ1 : List Res} (i : Nat) (hi : ops[i]? = some ⟨some d, .call { callee := .value x, args := xs, argTypes := at_ }, ty, pos, af, g⟩)
    (hc : allBits A.length (fun bs => (Region.ready .any ops (lsB A bs L)).all (fun j => Nat.beq j i || (pendB A bs).contains j) && !(Region.ready .any ops (lsB A bs L)).isEmpty) = true)
    (hfr : Frs σ A = true) (hg : grd ops σ g = some true) (hd : Nat.blt d E.N = true) (hda : (dsts A).contains d = false)
    (hx : oev σ x = some (.func (.func fn) #[] cap)) (hxs : oevs σ xs.toList = some vs) (hv : vs ++ cap.toList = vs') (ht : Tri E.P fn vs' [] φ1 (RetL C fv rf gf)) (hφ : ∀ r, r ∈ φ1 → r ∈ φ)
    (h : ∀ x, C x → AA E Q ops ml pl A fuel (L.setIfInBounds i true) ((d, fv x) :: σ) (rf x :: μ) (gf x ++ φ)) : AA E Q ops ml pl A (fuel + 1) L σ μ φ := by
  subst hv
  refine AA_oN (C := C) (fv := fv) (mf := fun x => [rf x]) (gf := gf) i hi hc hfr hg hd hda (fun μ' => ?_) h
  exact OJ_conv (OJ_call (μr := μ') hx hxs ht (List.Perm.refl _) hφ) (fun v μ'' φ' h => by
    obtain ⟨_, _, ⟨x, hc, rfl, rfl, rfl⟩, rfl, rfl⟩ := h
    exact ⟨_, ⟨x, hc, rfl, rfl, rfl⟩, List.Perm.refl _⟩)
end
end Go.Proofs.Ytbanlhlggkdanaa
namespace Go.Proofs.Ytbanlhlggkdanaa
open Go.RowKit
theorem tyi_144 : tyi Try.prog 144 = some (false, 1) := by kernel_rfl
theorem tyi_116 : tyi Try.prog 116 = some (false, 1) := by kernel_rfl
theorem ent_86 : Enter Try.prog 86 = true := by kernel_rfl
theorem lay_46 : lay1 Try.prog 46 = some [.int .i64 0, .int .i64 0] := by kernel_rfl
theorem umap_144 : Try.prog.underlying 144 = some (.map 46 146) := by kernel_rfl
theorem zer_146 : zer Try.prog 146 = some (.agg #[.int .i64 0, .int .i64 0]) := by kernel_rfl
theorem tyi_146 : tyi Try.prog 146 = some (true, 2) := by kernel_rfl
theorem lay_146 : lay1 Try.prog 146 = some [.int .i64 0, .int .i64 0] := by kernel_rfl
theorem fld_146_0 : fld Try.prog 146 0 = some 0 := by kernel_rfl
theorem fld_146_1 : fld Try.prog 146 1 = some 1 := by kernel_rfl
theorem umap_116 : Try.prog.underlying 116 = some (.map 46 3) := by kernel_rfl
abbrev fK : Int × Int → Value := fun x => .agg #[.int .i64 x.1, .int .i64 x.2]
abbrev gI : Int → Value := fun x => .int .i64 x
theorem check_arr2 {P : Program} (w : World) {t e : TypeId} {i : TypeInfo} {q : IntKind} (hu : P.underlying t = some (.array 2 e)) (hi : P.info? e = some i) (hs : i.size = 1) (he : tyi P e = some (false, 1)) (hk : P.underlying e = some (.int q)) (em : Bool) (a b : Int) :
  (Instr.checkKey em 10000 t (.agg #[.int .i64 a, .int .i64 b])).run P w = .ok () w := by
 rw [show (10000 : Nat) = 9998 + 1 + 1 from rfl]
 generalize 9998 = n
 have p0 : (part e #[Value.int .i64 a, Value.int .i64 b] (0 * 1)).run P w = .ok (.int .i64 a) w := run_part1 he rfl w
 have p1 : (part e #[Value.int .i64 a, Value.int .i64 b] (1 * 1)).run P w = .ok (.int .i64 b) w := run_part1 he rfl w
 have c0 : ∀ x : Int, (Instr.checkKey em (n + 1) e (.int .i64 x)).run P w = .ok () w := fun x => by simp [Instr.checkKey, run_underlying hk]
 have s0 : (sizeOf e).run P w = .ok 1 w := by simp [sizeOf, typeInfo, hi, hs]
 rw [Instr.checkKey]
 simp only [Sem.run_bind, run_underlying hu, Result.andThen_ok, Std.Legacy.Range.forIn_eq_forIn_range', Std.Legacy.Range.size, Nat.sub_zero, Nat.add_one_sub_one, Nat.div_one, List.range', List.forIn_cons, List.forIn_nil, s0, p0, p1, c0, Sem.run_pure, Nat.zero_add]
theorem info_int1 : ∃ i, Try.prog.info? 3 = some i ∧ i.size = 1 := by
 obtain ⟨i, hi⟩ := info_int
 refine ⟨i, hi, ?_⟩
 have h : (Try.prog.info? 3).map (·.size) = some 1 := by kernel_rfl
 rw [hi] at h
 simpa using h
theorem keyO : KeyT Try.prog 46 fK := by
 obtain ⟨i, hi, hs⟩ := info_int1
 exact keyTwo (by kernel_rfl) (fun em a b w => check_arr2 (q := .i64) w (by kernel_rfl) hi hs (by kernel_rfl) (by kernel_rfl) em a b) (fun a b c d w => run_eqArr2 w (by kernel_rfl) hi (by kernel_rfl) (by kernel_rfl) (by kernel_rfl) a b c d)
abbrev MapO := List ((Int × Int) × (Int × Int) × Nat)
abbrev MapI := List ((Int × Int) × Int × Nat)
def flt (F : MapI) (a b : Int) : Bool := decide (0 ≤ a) && (decide (0 ≤ b) && decide (0 < (mget (min a b, max a b) F).getD 0))
structure BS where
 M : MD
 L : MapO
 c : Nat
def joinE (F : MapI) (n : Nat) (v0 v1 v2 : Int) (s : BS) (i : Nat) : BS :=
 match mget (at3 v0 v1 v2 ((i + 2) % 3), at3 v0 v1 v2 ((i + 1) % 3)) s.L with
 | some x => ⟨s.M.link n i x.1.toNat x.2.toNat (flt F (at3 v0 v1 v2 ((i + 1) % 3)) (at3 v0 v1 v2 ((i + 2) % 3))), mdel (at3 v0 v1 v2 ((i + 2) % 3), at3 v0 v1 v2 ((i + 1) % 3)) s.L, s.c⟩
 | none => ⟨s.M, mput (at3 v0 v1 v2 ((i + 1) % 3), at3 v0 v1 v2 ((i + 2) % 3)) ((n : Int), (i : Int)) s.L s.c, mclk (at3 v0 v1 v2 ((i + 1) % 3), at3 v0 v1 v2 ((i + 2) % 3)) s.L s.c⟩
def joinB (F : MapI) (n : Nat) (v0 v1 v2 : Int) (s : BS) : BS := [0, 1, 2].foldl (joinE F n v0 v1 v2) s
def sOk (s : BS) : Prop := ∀ e, e ∈ s.L → (0 ≤ e.2.1.1 ∧ e.2.1.1 < s.M.tris.length) ∧ 0 ≤ e.2.1.2 ∧ e.2.1.2 < 3
theorem link_len (M : MD) (t i u j : Nat) (f : Bool) : (M.link t i u j f).tris.length = M.tris.length := by simp [MD.link]
theorem mget_mem {κ ν : Type} [DecidableEq κ] {k : κ} {l : List (κ × ν × Nat)} {v : ν} (h : mget k l = some v) : ∃ e, e ∈ l ∧ e.1 = k ∧ e.2.1 = v := by
 unfold mget at h
 cases hf : mfind k l 0 with
 | none => rw [hf] at h; cases h
 | some p =>
  rw [hf] at h
  obtain ⟨i, v'⟩ := p
  obtain ⟨_, e, h1, h2, h3⟩ := mfind_key hf
  simp at h
  subst h
  exact ⟨e, List.mem_of_getElem? h1, h2, h3⟩
theorem mdel_mem {κ ν : Type} [DecidableEq κ] {k : κ} {l : List (κ × ν × Nat)} {e : κ × ν × Nat} (h : e ∈ mdel k l) : e ∈ l := by
 unfold mdel at h
 split at h
 ·exact List.mem_of_mem_eraseIdx h
 ·exact h
theorem mput_mem {κ ν : Type} [DecidableEq κ] {k : κ} {v : ν} {l : List (κ × ν × Nat)} {c : Nat} {e : κ × ν × Nat} (h : e ∈ mput k v l c) : e.2.1 = v ∨ e ∈ l := by
 unfold mput at h
 split at h
 ·obtain ⟨i, hi⟩ := List.mem_iff_getElem?.1 h
  rw [List.getElem?_modify] at hi
  split at hi
  ·rename_i hj
   cases hl : l[i]? with
   | none => rw [hl] at hi; simp at hi
   | some e' => rw [hl] at hi; simp at hi; subst hi; exact .inl rfl
  ·simp at hi
   exact .inr (List.mem_of_getElem? hi)
 ·rcases List.mem_append.1 h with h | h
  ·exact .inr h
  ·rcases List.mem_singleton.1 h with rfl
   exact .inl rfl
theorem getD_int (m : Option Int) : ((m.map gI).getD (.int .i64 0)) = .int .i64 (m.getD 0) := by cases m <;> rfl
theorem j_three {F : MapI} {n : Nat} {v0 v1 v2 : Int} {s : BS} {k : Nat} (hk : k < 3) : ([0, 1, 2].take (k + 1)).foldl (joinE F n v0 v1 v2) s = joinE F n v0 v1 v2 (([0, 1, 2].take k).foldl (joinE F n v0 v1 v2) s) k := by
 match k, hk with
 | 0, _ => rfl
 | 1, _ => rfl
 | 2, _ => rfl
theorem tm3' {k j : Nat} (hk : k < 3) (hj : j < 3) : ((k : Int) + (j : Int)).tmod 3 = (((k + j) % 3 : Nat) : Int) := by
 match k, hk, j, hj with
 | 0, _, 0, _ => rfl
 | 0, _, 1, _ => rfl
 | 0, _, 2, _ => rfl
 | 1, _, 0, _ => rfl
 | 1, _, 1, _ => rfl
 | 1, _, 2, _ => rfl
 | 2, _, 0, _ => rfl
 | 2, _, 1, _ => rfl
 | 2, _, 2, _ => rfl
theorem v3_get {v0 v1 v2 : Int} {j : Nat} (hj : j < 3) : (#[.int .i64 v0, .int .i64 v1, .int .i64 v2] : Array Value)[0 + ((j : Nat) : Int).toNat * 1]? = some (.int .i64 (at3 v0 v1 v2 j)) := by
 match j, hj with
 | 0, _ => rfl
 | 1, _ => rfl
 | 2, _ => rfl
def joinFs (bo ro bm B bf rf : Nat) (F : MapI) (cF : Nat) : List Res := [sliceR 1 (some ⟨bo, 0, none⟩) 1 [.map (some ro)], sliceR 1 (some ⟨bm, 0, none⟩) 1 [.pointer (some ⟨B, 0, none⟩)], sliceR 1 (some ⟨bf, 0, none⟩) 1 [.map (some rf)], mapR rf fK gI F cF]
set_option maxRecDepth 100000 in
set_option maxHeartbeats 4000000 in
theorem join_c {bo ro bm B bf rf : Nat} {F : MapI} {cF : Nat} {n : Nat} {v0 v1 v2 : Int} {s0 : BS} (hn : n < s0.M.tris.length) (hlen : s0.M.tris.length ≤ 1000000) (hok0 : sOk s0) : Tri Try.prog 86 [.int .i64 (n : Int), .agg #[.int .i64 v0, .int .i64 v1, .int .i64 v2], .pointer (some ⟨bo, 0, none⟩), .pointer (some ⟨bm, 0, none⟩), .pointer (some ⟨bf, 0, none⟩)] [mapR ro fK fK s0.L s0.c, meshR B s0.M] (joinFs bo ro bm B bf rf F cF) (RetX (fun _ : Unit => True) (fun _ => .tuple #[]) (fun _ => [mapR ro fK fK (joinB F n v0 v1 v2 s0).L (joinB F n v0 v1 v2 s0).c, meshR B (joinB F n v0 v1 v2 s0).M]) (fun _ => [])) := by
 refine Tri_of (N := 72) Try.func86 rfl ent_86 rfl rfl ?_
 intro w0 S0 T0
 show CJ _ _ _ [(0, _), (1, _), (2, _), (3, _), (4, _)] _ _
 refine CJ_seq ?_
 refine CJ_reg ?_
 refine LJ_box (cs := #[_, _, _]) rfl rfl rfl rfl ?_
 intro b1
 refine LJ_nil ?_
 refine QJ_then ?_
 refine CJ_seq ?_
 refine CJ_reg ?_
 refine LJ_y rfl rfl (YJ_move rfl) ?_
 refine LJ_nil ?_
 refine QJ_then ?_
 refine CJ_block ?_
 refine CJ_loopF (F := fun (i : Nat × BS) => ⟨[(0, .int .i64 (n : Int)), (2, .pointer (some ⟨bo, 0, none⟩)), (3, .pointer (some ⟨bm, 0, none⟩)), (4, .pointer (some ⟨bf, 0, none⟩)), (6, .pointer (some ⟨b1, 0, none⟩)), (12, .int .i64 (i.1 : Nat))], [mapR ro fK fK i.2.L i.2.c, meshR B i.2.M], []⟩) (I := fun (i : Nat × BS) => i.1 ≤ 3 ∧ i.2 = ([0, 1, 2].take i.1).foldl (joinE F n v0 v1 v2) s0 ∧ sOk i.2 ∧ i.2.M.tris.length = s0.M.tris.length) (m := fun (i : Nat × BS) => 3 - i.1) (0, s0) (μr := [_]) ⟨Nat.zero_le _, rfl, hok0, rfl⟩ (And.intro rfl (And.intro rfl (And.intro rfl (And.intro rfl (And.intro rfl (And.intro rfl (trivial))))))) (permI [1, 1] rfl) (fun _ h => nomatch h) ?_
 rintro ⟨k, s⟩ ⟨hk, hs, hok, hln⟩
 try dsimp only at hk
 try dsimp only at hs
 try dsimp only at hok
 try dsimp only at hln
 show CJ _ _ _ [(0, .int .i64 (n : Int)), (2, .pointer (some ⟨bo, 0, none⟩)), (3, .pointer (some ⟨bm, 0, none⟩)), (4, .pointer (some ⟨bf, 0, none⟩)), (6, .pointer (some ⟨b1, 0, none⟩)), (12, .int .i64 (k : Nat))] (mapR ro fK fK s.L s.c :: meshR B s.M :: _ :: _) _
 refine CJ_seq ?_
 refine CJ_reg ?_
 refine LJ_y rfl rfl (YJ_bin rfl rfl rfl) ?_
 refine LJ_nil ?_
 refine QJ_then ?_
 refine CJ_seq ?_
 refine CJ_cond rfl (fun h13 => ?_) (fun h13 => ?_)
 ·simp only [decide_eq_true_eq] at h13
  have hk3 : k < 3 := by omega
  refine CJ_skip ?_
  refine QJ_then ?_
  refine CJ_seq ?_
  refine CJ_block ?_
  refine CJ_seq ?_
  refine CJ_reg ?_
  refine LJ_y rfl rfl (YJ_move rfl) ?_
  refine LJ_y rfl rfl (YJ_assign rfl) ?_
  refine LJ_nil ?_
  refine QJ_then ?_
  refine CJ_seq ?_
  refine CJ_regD mix (by kernel_rfl) (fun _ _ _ _ _ h => h) _ _ (fun _ h => h) (fun _ h => h) ?_
  refine AJ_y 0 rfl (by kernel_rfl) (by kernel_rfl) rfl rfl (YJ_move rfl) ?_
  refine AJ_y 1 rfl (by kernel_rfl) (by kernel_rfl) rfl rfl (YJ_bin rfl rfl (iop_add (by omega))) ?_
  refine AJ_y 2 rfl (by kernel_rfl) (by kernel_rfl) rfl rfl (YJ_rem rfl rfl (by first | decide | omega)) ?_
  refine AJ_val (v := .int .i64 (((k + 1) % 3 : Nat) : Int)) (congrArg (Value.int .i64) (tm3' (j := 1) hk3 (by decide))) ?_
  refine AJ_y 3 rfl (by kernel_rfl) (by kernel_rfl) rfl rfl (YJ_ixArr rfl rfl arrt_34 (by omega) (by omega) rfl) ?_
  refine AJ_y 4 rfl (by kernel_rfl) (by kernel_rfl) rfl rfl (YJ_load1 rfl tyi_3 m2 (v3_get (Nat.mod_lt (k + 1) (by decide)))) ?_
  refine AJ_y 5 rfl (by kernel_rfl) (by kernel_rfl) rfl rfl (YJ_move rfl) ?_
  refine AJ_y 6 rfl (by kernel_rfl) (by kernel_rfl) rfl rfl (YJ_bin rfl rfl (iop_add (by omega))) ?_
  refine AJ_y 7 rfl (by kernel_rfl) (by kernel_rfl) rfl rfl (YJ_rem rfl rfl (by first | decide | omega)) ?_
  refine AJ_val (v := .int .i64 (((k + 2) % 3 : Nat) : Int)) (congrArg (Value.int .i64) (tm3' (j := 2) hk3 (by decide))) ?_
  refine AJ_y 8 rfl (by kernel_rfl) (by kernel_rfl) rfl rfl (YJ_ixArr rfl rfl arrt_34 (by omega) (by omega) rfl) ?_
  refine AJ_y 9 rfl (by kernel_rfl) (by kernel_rfl) rfl rfl (YJ_load1 rfl tyi_3 m2 (v3_get (Nat.mod_lt (k + 2) (by decide)))) ?_
  refine AJ_y 10 rfl (by kernel_rfl) (by kernel_rfl) rfl rfl (YJ_assign rfl) ?_
  refine AJ_y 11 rfl (by kernel_rfl) (by kernel_rfl) rfl rfl (YJ_assign rfl) ?_
  refine AJ_done (by kernel_rfl) ?_
  refine QJ_then ?_
  refine CJ_seq ?_
  refine CJ_reg ?_
  refine LJ_y rfl rfl (YJ_loadFactP (A := some ⟨bo, 0, none⟩) (j := 0) rfl rfl tyi_144 m0 rfl) ?_
  refine LJ_y rfl rfl (YJ_move rfl) ?_
  refine LJ_y rfl rfl (YJ_move rfl) ?_
  refine LJ_y rfl rfl (YJ_build1 (cs := [_, _]) lay_46 rfl rfl rfl) ?_
  rcases hmg : mget (at3 v0 v1 v2 ((k + 2) % 3), at3 v0 v1 v2 ((k + 1) % 3)) s.L with _ | ⟨t9, i9⟩
  ·skip
   refine LJ_y rfl rfl (YJ_lookup (f := fK) (g := fK) (k := (at3 v0 v1 v2 ((k + 2) % 3), at3 v0 v1 v2 ((k + 1) % 3))) rfl rfl umap_144 keyO zer_146 (MapAt_own m0) rfl) ?_
   refine LJ_val (v := .tuple #[.agg #[.int .i64 0, .int .i64 0], .bool false]) (by rw [hmg]; rfl) ?_
   refine LJ_y rfl rfl (YJ_move rfl) ?_
   refine LJ_y rfl rfl (YJ_extract rfl rfl) ?_
   refine LJ_y rfl rfl (YJ_extract rfl rfl) ?_
   refine LJ_alloc (cs := #[_, _]) rfl rfl zer_146 rfl ?_
   intro b2
   refine LJ_store (cs' := #[_, _]) (μ' := [_, _, _, _]) 0 rfl rfl rfl rfl tyi_146 rfl (Nat.le_of_ble_eq_true rfl) rfl rfl rfl ?_
   refine LJ_y rfl rfl (YJ_assign rfl) ?_
   refine LJ_nil ?_
   refine QJ_then ?_
   refine CJ_seq ?_
   refine CJ_reg ?_
   refine LJ_y rfl rfl (YJ_move rfl) ?_
   refine LJ_nil ?_
   refine QJ_then ?_
   refine CJ_condF rfl ?_
   refine CJ_reg ?_
   refine LJ_y rfl rfl (YJ_loadFactP (A := some ⟨bo, 0, none⟩) (j := 0) rfl rfl tyi_144 m0 rfl) ?_
   refine LJ_y rfl rfl (YJ_move rfl) ?_
   refine LJ_y rfl rfl (YJ_move rfl) ?_
   refine LJ_y rfl rfl (YJ_build1 (cs := [_, _]) lay_46 rfl rfl rfl) ?_
   refine LJ_y rfl rfl (YJ_move rfl) ?_
   refine LJ_y rfl rfl (YJ_move rfl) ?_
   refine LJ_y rfl rfl (YJ_build1 (cs := [_, _]) lay_146 rfl rfl rfl) ?_
   refine LJ_mapUpdate (f := fK) (g := fK) (k := (at3 v0 v1 v2 ((k + 1) % 3), at3 v0 v1 v2 ((k + 2) % 3))) (v := ((n : Int), (k : Int))) 1 rfl rfl rfl rfl rfl umap_144 keyO rfl rfl ?_
   show LJ _ _ _ _ _ (_ :: _ :: _ :: _ :: _) _
   refine LJ_nil ?_
   refine QJ_in_normal ?_
   refine QJ_then ?_
   refine CJ_reg ?_
   refine LJ_y rfl rfl (YJ_bin rfl rfl (iop_add (by omega))) ?_
   refine LJ_y rfl rfl (YJ_move rfl) ?_
   refine LJ_nil ?_
   refine QJ_roundF (F := fun (i : Nat × BS) => ⟨[(0, .int .i64 (n : Int)), (2, .pointer (some ⟨bo, 0, none⟩)), (3, .pointer (some ⟨bm, 0, none⟩)), (4, .pointer (some ⟨bf, 0, none⟩)), (6, .pointer (some ⟨b1, 0, none⟩)), (12, .int .i64 (i.1 : Nat))], [mapR ro fK fK i.2.L i.2.c, meshR B i.2.M], []⟩) (I := fun (i : Nat × BS) => i.1 ≤ 3 ∧ i.2 = ([0, 1, 2].take i.1).foldl (joinE F n v0 v1 v2) s0 ∧ sOk i.2 ∧ i.2.M.tris.length = s0.M.tris.length) (m := fun (i : Nat × BS) => 3 - i.1) (i := (k, s)) ((k + 1, ⟨s.M, mput (at3 v0 v1 v2 ((k + 1) % 3), at3 v0 v1 v2 ((k + 2) % 3)) ((n : Int), (k : Int)) s.L s.c, mclk (at3 v0 v1 v2 ((k + 1) % 3), at3 v0 v1 v2 ((k + 2) % 3)) s.L s.c⟩)) (μd := [_]) ⟨by omega, by dsimp only; rw [j_three hk3, ← hs]; unfold joinE; rw [hmg], fun e he => (mput_mem he).elim (fun q => by rw [q]; dsimp only; omega) (hok e), hln⟩ (by dsimp only; omega) (And.intro rfl (And.intro rfl (And.intro rfl (And.intro rfl (And.intro rfl (And.intro rfl (trivial))))))) (permI [1, 1, 1] rfl) (fun _ h => nomatch h) (fun _ h => h)
  ·skip
   have hmm := mget_mem hmg
   obtain ⟨e9, he9, _, hv9⟩ := hmm
   obtain ⟨⟨ht0, ht1⟩, hi0, hi1⟩ := hok e9 he9
   rw [hv9] at ht0 ht1 hi0 hi1
   dsimp only at ht0 ht1 hi0 hi1
   refine LJ_y rfl rfl (YJ_lookup (f := fK) (g := fK) (k := (at3 v0 v1 v2 ((k + 2) % 3), at3 v0 v1 v2 ((k + 1) % 3))) rfl rfl umap_144 keyO zer_146 (MapAt_own m0) rfl) ?_
   refine LJ_val (v := .tuple #[.agg #[.int .i64 t9, .int .i64 i9], .bool true]) (by rw [hmg]; rfl) ?_
   refine LJ_y rfl rfl (YJ_move rfl) ?_
   refine LJ_y rfl rfl (YJ_extract rfl rfl) ?_
   refine LJ_y rfl rfl (YJ_extract rfl rfl) ?_
   refine LJ_alloc (cs := #[_, _]) rfl rfl zer_146 rfl ?_
   intro b3
   refine LJ_store (cs' := #[_, _]) (μ' := [_, _, _, _]) 0 rfl rfl rfl rfl tyi_146 rfl (Nat.le_of_ble_eq_true rfl) rfl rfl rfl ?_
   refine LJ_y rfl rfl (YJ_assign rfl) ?_
   refine LJ_nil ?_
   refine QJ_then ?_
   refine CJ_seq ?_
   refine CJ_reg ?_
   refine LJ_y rfl rfl (YJ_move rfl) ?_
   refine LJ_nil ?_
   refine QJ_then ?_
   refine CJ_condT rfl ?_
   refine CJ_seq ?_
   refine CJ_regD mix (by kernel_rfl) (fun _ _ _ _ _ h => h) (selR [0, 1, 3] _) _ (selR_sub _ _) (fun _ h => h) ?_
   refine AJ_y 0 rfl (by kernel_rfl) (by kernel_rfl) rfl rfl (YJ_loadFactP (A := some ⟨bm, 0, none⟩) (j := 0) rfl rfl tyi_28 m1 rfl) ?_
   refine AJ_y 1 rfl (by kernel_rfl) (by kernel_rfl) rfl rfl (YJ_move rfl) ?_
   refine AJ_y 2 rfl (by kernel_rfl) (by kernel_rfl) rfl rfl (YJ_move rfl) ?_
   refine AJ_y 3 rfl (by kernel_rfl) (by kernel_rfl) rfl rfl (YJ_fieldOwn rfl fld_146_0 rfl) ?_
   refine AJ_y 4 rfl (by kernel_rfl) (by kernel_rfl) rfl rfl (YJ_loadL rfl tyi_3 m0 rfl) ?_
   refine AJ_val (v := .int .i64 ((t9.toNat : Nat) : Int)) (congrArg (Value.int .i64) (by omega)) ?_
   refine AJ_y 5 rfl (by kernel_rfl) (by kernel_rfl) rfl rfl (YJ_fieldOwn rfl fld_146_1 rfl) ?_
   refine AJ_y 6 rfl (by kernel_rfl) (by kernel_rfl) rfl rfl (YJ_loadL rfl tyi_3 m0 rfl) ?_
   refine AJ_val (v := .int .i64 ((i9.toNat : Nat) : Int)) (congrArg (Value.int .i64) (by omega)) ?_
   refine AJ_y 7 rfl (by kernel_rfl) (by kernel_rfl) rfl rfl (YJ_move rfl) ?_
   refine AJ_y 8 rfl (by kernel_rfl) (by kernel_rfl) rfl rfl (YJ_bin rfl rfl rfl) ?_
   refine AJ_y 9 rfl (by kernel_rfl) (by kernel_rfl) rfl rfl (YJ_move rfl) ?_
   refine AJ_boolC (fun h43 => ?_) (fun h43 => ?_)
   ·simp only [decide_eq_true_eq] at h43
    refine AJ_y 10 rfl (by kernel_rfl) (by kernel_rfl) rfl rfl (YJ_move rfl) ?_
    refine AJ_y 11 rfl (by kernel_rfl) (by kernel_rfl) rfl rfl (YJ_bin rfl rfl rfl) ?_
    refine AJ_y 12 rfl (by kernel_rfl) (by kernel_rfl) rfl rfl (YJ_pickT rfl rfl) ?_
    refine AJ_y 13 rfl (by kernel_rfl) (by kernel_rfl) rfl rfl (YJ_move rfl) ?_
    refine AJ_boolC (fun h47 => ?_) (fun h47 => ?_)
    ·simp only [decide_eq_true_eq] at h47
     refine AJ_y 14 rfl (by kernel_rfl) (by kernel_rfl) rfl rfl (YJ_loadFactP (A := some ⟨bf, 0, none⟩) (j := 0) rfl rfl tyi_116 m2 rfl) ?_
     refine AJ_y 15 rfl (by kernel_rfl) (by kernel_rfl) rfl rfl (YJ_move rfl) ?_
     refine AJ_y 16 rfl (by kernel_rfl) (by kernel_rfl) rfl rfl (YJ_move rfl) ?_
     refine AJ_y 17 rfl (by kernel_rfl) (by kernel_rfl) rfl rfl (YJ_min2 rfl rfl) ?_
     refine AJ_y 18 rfl (by kernel_rfl) (by kernel_rfl) rfl rfl (YJ_move rfl) ?_
     refine AJ_y 19 rfl (by kernel_rfl) (by kernel_rfl) rfl rfl (YJ_move rfl) ?_
     refine AJ_y 20 rfl (by kernel_rfl) (by kernel_rfl) rfl rfl (YJ_max2 rfl rfl) ?_
     refine AJ_y 21 rfl (by kernel_rfl) (by kernel_rfl) rfl rfl (YJ_build1 (cs := [_, _]) lay_46 rfl rfl rfl) ?_
     refine AJ_y 22 rfl (by kernel_rfl) (by kernel_rfl) rfl rfl (YJ_lookup (f := fK) (g := gI) (k := (min (at3 v0 v1 v2 ((k + 1) % 3)) (at3 v0 v1 v2 ((k + 2) % 3)), max (at3 v0 v1 v2 ((k + 1) % 3)) (at3 v0 v1 v2 ((k + 2) % 3)))) rfl rfl umap_116 keyO zer_3 (MapAt_fact m3) rfl) ?_
     refine AJ_val (v := .int .i64 ((mget (min (at3 v0 v1 v2 ((k + 1) % 3)) (at3 v0 v1 v2 ((k + 2) % 3)), max (at3 v0 v1 v2 ((k + 1) % 3)) (at3 v0 v1 v2 ((k + 2) % 3))) F).getD 0)) (getD_int _) ?_
     refine AJ_y 23 rfl (by kernel_rfl) (by kernel_rfl) rfl rfl (YJ_bin rfl rfl rfl) ?_
     refine AJ_y 24 rfl (by kernel_rfl) (by kernel_rfl) rfl rfl (YJ_pickT rfl rfl) ?_
     refine AJ_call1 25 2 rfl (by kernel_rfl) rfl rfl rfl rfl rfl rfl (link_c (t := n) (i := k) (u := t9.toNat) (j := i9.toNat) (f := decide (0 < (mget (min (at3 v0 v1 v2 ((k + 1) % 3)) (at3 v0 v1 v2 ((k + 2) % 3)), max (at3 v0 v1 v2 ((k + 1) % 3)) (at3 v0 v1 v2 ((k + 2) % 3))) F).getD 0)) (by rw [hln]; exact hn) (by omega) hk3 (by omega)) (fun _ h => nomatch h) (AllIn.sub (And.intro m0 (And.intro m1 (And.intro m3 (trivial))))) ?_
     show AJ _ _ _ _ _ _ _ _ (_ :: _ :: _ :: _ :: _) _
     refine AJ_done (by kernel_rfl) ?_
     refine QJ_then ?_
     refine CJ_reg ?_
     refine LJ_y rfl rfl (YJ_loadFactP (A := some ⟨bo, 0, none⟩) (j := 0) rfl rfl tyi_144 m0 rfl) ?_
     refine LJ_y rfl rfl (YJ_move rfl) ?_
     refine LJ_y rfl rfl (YJ_move rfl) ?_
     refine LJ_y rfl rfl (YJ_build1 (cs := [_, _]) lay_46 rfl rfl rfl) ?_
     refine LJ_delete (f := fK) (g := fK) (k := (at3 v0 v1 v2 ((k + 2) % 3), at3 v0 v1 v2 ((k + 1) % 3))) 1 rfl rfl rfl rfl umap_144 keyO rfl ?_
     show LJ _ _ _ _ _ (_ :: _ :: _ :: _ :: _) _
     refine LJ_nil ?_
     refine QJ_in_normal ?_
     refine QJ_then ?_
     refine CJ_reg ?_
     refine LJ_y rfl rfl (YJ_bin rfl rfl (iop_add (by omega))) ?_
     refine LJ_y rfl rfl (YJ_move rfl) ?_
     refine LJ_nil ?_
     refine QJ_roundF (F := fun (i : Nat × BS) => ⟨[(0, .int .i64 (n : Int)), (2, .pointer (some ⟨bo, 0, none⟩)), (3, .pointer (some ⟨bm, 0, none⟩)), (4, .pointer (some ⟨bf, 0, none⟩)), (6, .pointer (some ⟨b1, 0, none⟩)), (12, .int .i64 (i.1 : Nat))], [mapR ro fK fK i.2.L i.2.c, meshR B i.2.M], []⟩) (I := fun (i : Nat × BS) => i.1 ≤ 3 ∧ i.2 = ([0, 1, 2].take i.1).foldl (joinE F n v0 v1 v2) s0 ∧ sOk i.2 ∧ i.2.M.tris.length = s0.M.tris.length) (m := fun (i : Nat × BS) => 3 - i.1) (i := (k, s)) ((k + 1, ⟨s.M.link n k t9.toNat i9.toNat (decide (0 < (mget (min (at3 v0 v1 v2 ((k + 1) % 3)) (at3 v0 v1 v2 ((k + 2) % 3)), max (at3 v0 v1 v2 ((k + 1) % 3)) (at3 v0 v1 v2 ((k + 2) % 3))) F).getD 0)), mdel (at3 v0 v1 v2 ((k + 2) % 3), at3 v0 v1 v2 ((k + 1) % 3)) s.L, s.c⟩)) (μd := [_]) ⟨by omega, by dsimp only; rw [j_three hk3, ← hs]; unfold joinE; rw [hmg]; dsimp only; rw [show flt F (at3 v0 v1 v2 ((k + 1) % 3)) (at3 v0 v1 v2 ((k + 2) % 3)) = (decide (0 < (mget (min (at3 v0 v1 v2 ((k + 1) % 3)) (at3 v0 v1 v2 ((k + 2) % 3)), max (at3 v0 v1 v2 ((k + 1) % 3)) (at3 v0 v1 v2 ((k + 2) % 3))) F).getD 0)) from by unfold flt; simp [h43, h47]], fun e he => by dsimp only at he ⊢; rw [link_len]; exact hok e (mdel_mem he), by dsimp only; rw [link_len]; exact hln⟩ (by dsimp only; omega) (And.intro rfl (And.intro rfl (And.intro rfl (And.intro rfl (And.intro rfl (And.intro rfl (trivial))))))) (permI [1, 1, 1] rfl) (fun _ h => nomatch h) (fun _ h => h)
    ·simp only [decide_eq_false_iff_not] at h47
     refine AJ_skip 14 rfl (by kernel_rfl) (by kernel_rfl) rfl rfl ?_
     refine AJ_skip 15 rfl (by kernel_rfl) (by kernel_rfl) rfl rfl ?_
     refine AJ_skip 16 rfl (by kernel_rfl) (by kernel_rfl) rfl rfl ?_
     refine AJ_skip 17 rfl (by kernel_rfl) (by kernel_rfl) rfl rfl ?_
     refine AJ_skip 18 rfl (by kernel_rfl) (by kernel_rfl) rfl rfl ?_
     refine AJ_skip 19 rfl (by kernel_rfl) (by kernel_rfl) rfl rfl ?_
     refine AJ_skip 20 rfl (by kernel_rfl) (by kernel_rfl) rfl rfl ?_
     refine AJ_skip 21 rfl (by kernel_rfl) (by kernel_rfl) rfl rfl ?_
     refine AJ_skip 22 rfl (by kernel_rfl) (by kernel_rfl) rfl rfl ?_
     refine AJ_skip 23 rfl (by kernel_rfl) (by kernel_rfl) rfl rfl ?_
     refine AJ_y 24 rfl (by kernel_rfl) (by kernel_rfl) rfl rfl (YJ_pickF rfl rfl) ?_
     refine AJ_call1 25 2 rfl (by kernel_rfl) rfl rfl rfl rfl rfl rfl (link_c (t := n) (i := k) (u := t9.toNat) (j := i9.toNat) (f := false) (by rw [hln]; exact hn) (by omega) hk3 (by omega)) (fun _ h => nomatch h) (AllIn.sub (And.intro m0 (And.intro m1 (And.intro m3 (trivial))))) ?_
     show AJ _ _ _ _ _ _ _ _ (_ :: _ :: _ :: _ :: _) _
     refine AJ_done (by kernel_rfl) ?_
     refine QJ_then ?_
     refine CJ_reg ?_
     refine LJ_y rfl rfl (YJ_loadFactP (A := some ⟨bo, 0, none⟩) (j := 0) rfl rfl tyi_144 m0 rfl) ?_
     refine LJ_y rfl rfl (YJ_move rfl) ?_
     refine LJ_y rfl rfl (YJ_move rfl) ?_
     refine LJ_y rfl rfl (YJ_build1 (cs := [_, _]) lay_46 rfl rfl rfl) ?_
     refine LJ_delete (f := fK) (g := fK) (k := (at3 v0 v1 v2 ((k + 2) % 3), at3 v0 v1 v2 ((k + 1) % 3))) 1 rfl rfl rfl rfl umap_144 keyO rfl ?_
     show LJ _ _ _ _ _ (_ :: _ :: _ :: _ :: _) _
     refine LJ_nil ?_
     refine QJ_in_normal ?_
     refine QJ_then ?_
     refine CJ_reg ?_
     refine LJ_y rfl rfl (YJ_bin rfl rfl (iop_add (by omega))) ?_
     refine LJ_y rfl rfl (YJ_move rfl) ?_
     refine LJ_nil ?_
     refine QJ_roundF (F := fun (i : Nat × BS) => ⟨[(0, .int .i64 (n : Int)), (2, .pointer (some ⟨bo, 0, none⟩)), (3, .pointer (some ⟨bm, 0, none⟩)), (4, .pointer (some ⟨bf, 0, none⟩)), (6, .pointer (some ⟨b1, 0, none⟩)), (12, .int .i64 (i.1 : Nat))], [mapR ro fK fK i.2.L i.2.c, meshR B i.2.M], []⟩) (I := fun (i : Nat × BS) => i.1 ≤ 3 ∧ i.2 = ([0, 1, 2].take i.1).foldl (joinE F n v0 v1 v2) s0 ∧ sOk i.2 ∧ i.2.M.tris.length = s0.M.tris.length) (m := fun (i : Nat × BS) => 3 - i.1) (i := (k, s)) ((k + 1, ⟨s.M.link n k t9.toNat i9.toNat (false), mdel (at3 v0 v1 v2 ((k + 2) % 3), at3 v0 v1 v2 ((k + 1) % 3)) s.L, s.c⟩)) (μd := [_]) ⟨by omega, by dsimp only; rw [j_three hk3, ← hs]; unfold joinE; rw [hmg]; dsimp only; rw [show flt F (at3 v0 v1 v2 ((k + 1) % 3)) (at3 v0 v1 v2 ((k + 2) % 3)) = (false) from by unfold flt; simp [h43, h47]], fun e he => by dsimp only at he ⊢; rw [link_len]; exact hok e (mdel_mem he), by dsimp only; rw [link_len]; exact hln⟩ (by dsimp only; omega) (And.intro rfl (And.intro rfl (And.intro rfl (And.intro rfl (And.intro rfl (And.intro rfl (trivial))))))) (permI [1, 1, 1] rfl) (fun _ h => nomatch h) (fun _ h => h)
   ·simp only [decide_eq_false_iff_not] at h43
    refine AJ_skip 10 rfl (by kernel_rfl) (by kernel_rfl) rfl rfl ?_
    refine AJ_skip 11 rfl (by kernel_rfl) (by kernel_rfl) rfl rfl ?_
    refine AJ_y 12 rfl (by kernel_rfl) (by kernel_rfl) rfl rfl (YJ_pickF rfl rfl) ?_
    refine AJ_y 13 rfl (by kernel_rfl) (by kernel_rfl) rfl rfl (YJ_move rfl) ?_
    refine AJ_skip 14 rfl (by kernel_rfl) (by kernel_rfl) rfl rfl ?_
    refine AJ_skip 15 rfl (by kernel_rfl) (by kernel_rfl) rfl rfl ?_
    refine AJ_skip 16 rfl (by kernel_rfl) (by kernel_rfl) rfl rfl ?_
    refine AJ_skip 17 rfl (by kernel_rfl) (by kernel_rfl) rfl rfl ?_
    refine AJ_skip 18 rfl (by kernel_rfl) (by kernel_rfl) rfl rfl ?_
    refine AJ_skip 19 rfl (by kernel_rfl) (by kernel_rfl) rfl rfl ?_
    refine AJ_skip 20 rfl (by kernel_rfl) (by kernel_rfl) rfl rfl ?_
    refine AJ_skip 21 rfl (by kernel_rfl) (by kernel_rfl) rfl rfl ?_
    refine AJ_skip 22 rfl (by kernel_rfl) (by kernel_rfl) rfl rfl ?_
    refine AJ_skip 23 rfl (by kernel_rfl) (by kernel_rfl) rfl rfl ?_
    refine AJ_y 24 rfl (by kernel_rfl) (by kernel_rfl) rfl rfl (YJ_pickF rfl rfl) ?_
    refine AJ_call1 25 2 rfl (by kernel_rfl) rfl rfl rfl rfl rfl rfl (link_c (t := n) (i := k) (u := t9.toNat) (j := i9.toNat) (f := false) (by rw [hln]; exact hn) (by omega) hk3 (by omega)) (fun _ h => nomatch h) (AllIn.sub (And.intro m0 (And.intro m1 (And.intro m3 (trivial))))) ?_
    show AJ _ _ _ _ _ _ _ _ (_ :: _ :: _ :: _ :: _) _
    refine AJ_done (by kernel_rfl) ?_
    refine QJ_then ?_
    refine CJ_reg ?_
    refine LJ_y rfl rfl (YJ_loadFactP (A := some ⟨bo, 0, none⟩) (j := 0) rfl rfl tyi_144 m0 rfl) ?_
    refine LJ_y rfl rfl (YJ_move rfl) ?_
    refine LJ_y rfl rfl (YJ_move rfl) ?_
    refine LJ_y rfl rfl (YJ_build1 (cs := [_, _]) lay_46 rfl rfl rfl) ?_
    refine LJ_delete (f := fK) (g := fK) (k := (at3 v0 v1 v2 ((k + 2) % 3), at3 v0 v1 v2 ((k + 1) % 3))) 1 rfl rfl rfl rfl umap_144 keyO rfl ?_
    show LJ _ _ _ _ _ (_ :: _ :: _ :: _ :: _) _
    refine LJ_nil ?_
    refine QJ_in_normal ?_
    refine QJ_then ?_
    refine CJ_reg ?_
    refine LJ_y rfl rfl (YJ_bin rfl rfl (iop_add (by omega))) ?_
    refine LJ_y rfl rfl (YJ_move rfl) ?_
    refine LJ_nil ?_
    refine QJ_roundF (F := fun (i : Nat × BS) => ⟨[(0, .int .i64 (n : Int)), (2, .pointer (some ⟨bo, 0, none⟩)), (3, .pointer (some ⟨bm, 0, none⟩)), (4, .pointer (some ⟨bf, 0, none⟩)), (6, .pointer (some ⟨b1, 0, none⟩)), (12, .int .i64 (i.1 : Nat))], [mapR ro fK fK i.2.L i.2.c, meshR B i.2.M], []⟩) (I := fun (i : Nat × BS) => i.1 ≤ 3 ∧ i.2 = ([0, 1, 2].take i.1).foldl (joinE F n v0 v1 v2) s0 ∧ sOk i.2 ∧ i.2.M.tris.length = s0.M.tris.length) (m := fun (i : Nat × BS) => 3 - i.1) (i := (k, s)) ((k + 1, ⟨s.M.link n k t9.toNat i9.toNat (false), mdel (at3 v0 v1 v2 ((k + 2) % 3), at3 v0 v1 v2 ((k + 1) % 3)) s.L, s.c⟩)) (μd := [_]) ⟨by omega, by dsimp only; rw [j_three hk3, ← hs]; unfold joinE; rw [hmg]; dsimp only; rw [show flt F (at3 v0 v1 v2 ((k + 1) % 3)) (at3 v0 v1 v2 ((k + 2) % 3)) = (false) from by unfold flt; simp [h43]], fun e he => by dsimp only at he ⊢; rw [link_len]; exact hok e (mdel_mem he), by dsimp only; rw [link_len]; exact hln⟩ (by dsimp only; omega) (And.intro rfl (And.intro rfl (And.intro rfl (And.intro rfl (And.intro rfl (And.intro rfl (trivial))))))) (permI [1, 1, 1] rfl) (fun _ h => nomatch h) (fun _ h => h)
 ·simp only [decide_eq_false_iff_not] at h13
  refine CJ_exit ?_
  refine QJ_then_exit ?_
  refine QJ_then_exit ?_
  refine QJ_in_exit ?_
  have hk9 : k = 3 := by omega
  subst hk9
  have hs9 : s = joinB F n v0 v1 v2 s0 := hs
  subst hs9
  exact QJ_fin (.inr rfl) (μ' := [_, _]) (μr := [_]) (φ' := []) (res_none rfl) (permI [] rfl) (fun _ h => nomatch h) ⟨(), trivial, rfl, rfl, rfl⟩
end Go.Proofs.Ytbanlhlggkdanaa
namespace Go.Proofs.Ytbanlhlggkdanaa
open Go.RowKit
def t3Cells (l : List (Int × Int × Int)) : List Value := l.flatMap fun x => [.int .i64 x.1, .int .i64 x.2.1, .int .i64 x.2.2]
def kCells (l : MapO) : List Value := l.flatMap fun e => [.int .i64 e.1.1, .int .i64 e.1.2]
theorem t3_row : ∀ {l : List (Int × Int × Int)} {i : Nat} {x : Int × Int × Int}, l[i]? = some x → ((t3Cells l).drop (i * 3)).take 3 = [.int .i64 x.1, .int .i64 x.2.1, .int .i64 x.2.2]
 | [], i, x, h => by simp at h
 | u :: l, 0, x, h => by
  simp at h
  subst h
  simp [t3Cells]
 | u :: l, i + 1, x, h => by
  have := t3_row (l := l) (i := i) (x := x) (by simpa using h)
  rw [← this, Nat.succ_mul]
  simp [t3Cells]
theorem k_row : ∀ {l : MapO} {i : Nat} {x : (Int × Int) × (Int × Int) × Nat}, l[i]? = some x → ((kCells l).drop (i * 2)).take 2 = [.int .i64 x.1.1, .int .i64 x.1.2]
 | [], i, x, h => by simp at h
 | u :: l, 0, x, h => by
  simp at h
  subst h
  simp [kCells]
 | u :: l, i + 1, x, h => by
  have := k_row (l := l) (i := i) (x := x) (by simpa using h)
  rw [← this, Nat.succ_mul]
  simp [kCells]
theorem k_app (l : MapO) (e : (Int × Int) × (Int × Int) × Nat) : kCells l ++ [.int .i64 e.1.1, .int .i64 e.1.2] = kCells (l ++ [e]) := by simp [kCells]
structure bOk (n : Nat) (s : BS) : Prop where
 ats : s.M.ats.length = n
 free : ∀ k, k ∈ s.M.free → 0 ≤ k ∧ k < s.M.tris.length
 fl : s.M.free.length ≤ 4
 op : sOk s
 clk : ∀ e, e ∈ s.L → e.2.2 < s.c
 nod : (s.L.map (·.2.2)).Nodup
 key : ∀ e, e ∈ s.L → e.1.1 < n ∧ e.1.2 < n
theorem mdel_born {κ ν : Type} [DecidableEq κ] {k : κ} {l : List (κ × ν × Nat)} (h : (l.map (·.2.2)).Nodup) : ((mdel k l).map (·.2.2)).Nodup := by
 unfold mdel
 split
 ·exact h.sublist (List.Sublist.map _ (List.eraseIdx_sublist _ _))
 ·exact h
theorem mput_born {κ ν : Type} [DecidableEq κ] {k : κ} {v : ν} {l : List (κ × ν × Nat)} {c : Nat} (hc : ∀ e, e ∈ l → e.2.2 < c) (h : (l.map (·.2.2)).Nodup) : ((mput k v l c).map (·.2.2)).Nodup ∧ ∀ e, e ∈ mput k v l c → e.2.2 < mclk k l c := by
 unfold mput mclk
 cases hf : mfind k l 0 with
 | some p =>
  obtain ⟨i, v'⟩ := p
  dsimp only
  have e1 : (l.modify i (fun e => (e.1, v, e.2.2))).map (·.2.2) = l.map (·.2.2) := by
   apply List.ext_getElem?
   intro j
   simp only [List.getElem?_map, List.getElem?_modify]
   cases l[j]? with
   | none => simp
   | some e => by_cases hj : i = j <;> simp [hj]
  refine ⟨by rw [e1]; exact h, fun e he => ?_⟩
  have : e.2.2 ∈ l.map (·.2.2) := by rw [← e1]; exact List.mem_map.2 ⟨e, he, rfl⟩
  obtain ⟨e', he', hb⟩ := List.mem_map.1 this
  rw [← hb]; exact hc e' he'
 | none =>
  dsimp only
  refine ⟨?_, fun e he => ?_⟩
  ·rw [List.map_append, List.nodup_append]
   refine ⟨h, by simp, ?_⟩
   intro a ha b hb
   obtain ⟨e, he, rfl⟩ := List.mem_map.1 ha
   simp at hb
   subst hb
   have := hc e he
   omega
  ·rcases List.mem_append.1 he with he | he
   ·have := hc e he; omega
   ·rcases List.mem_singleton.1 he with rfl
    exact Nat.lt_succ_self c
theorem mput_key {κ ν : Type} [DecidableEq κ] {k : κ} {v : ν} {l : List (κ × ν × Nat)} {c : Nat} {e : κ × ν × Nat} (h : e ∈ mput k v l c) : e.1 = k ∨ ∃ e', e' ∈ l ∧ e'.1 = e.1 := by
 unfold mput at h
 split at h
 ·obtain ⟨i, hi⟩ := List.mem_iff_getElem?.1 h
  rw [List.getElem?_modify] at hi
  cases hl : l[i]? with
  | none => rw [hl] at hi; simp at hi
  | some e' =>
   rw [hl] at hi
   refine .inr ⟨e', List.mem_of_getElem? hl, ?_⟩
   simp at hi
   split at hi <;> (subst hi; rfl)
 ·rcases List.mem_append.1 h with h | h
  ·exact .inr ⟨e, h, rfl⟩
  ·rcases List.mem_singleton.1 h with rfl
   exact .inl rfl
theorem at3_lt {v0 v1 v2 : Int} {n : Nat} (h0 : v0 < n) (h1 : v1 < n) (h2 : v2 < n) (j : Nat) : at3 v0 v1 v2 j < n := by unfold at3; split <;> (try split) <;> assumption
theorem joinE_ok {F : MapI} {n t : Nat} {v0 v1 v2 : Int} {s : BS} {i : Nat} (h : bOk n s) (ht : t < s.M.tris.length) (h0 : v0 < n) (h1 : v1 < n) (h2 : v2 < n) (hi : i < 3) :
  bOk n (joinE F t v0 v1 v2 s i) ∧ (joinE F t v0 v1 v2 s i).M.tris.length = s.M.tris.length ∧ (joinE F t v0 v1 v2 s i).M.pts = s.M.pts ∧ (joinE F t v0 v1 v2 s i).M.free = s.M.free := by
 unfold joinE
 split
 ·refine ⟨⟨h.ats, fun k hk => by show _ ∧ _ < ((s.M.link _ _ _ _ _).tris.length : Int); rw [link_len]; exact h.free k hk, h.fl, fun e he => ?_, fun e he => h.clk e (mdel_mem he), mdel_born h.nod, fun e he => h.key e (mdel_mem he)⟩, link_len .., rfl, rfl⟩
  dsimp only at he ⊢
  rw [link_len]
  exact h.op e (mdel_mem he)
 ·refine ⟨⟨h.ats, h.free, h.fl, fun e he => ?_, (mput_born h.clk h.nod).2, (mput_born h.clk h.nod).1, fun e he => ?_⟩, rfl, rfl, rfl⟩
  ·rcases mput_mem he with q | q
   ·rw [q]; dsimp only; omega
   ·exact h.op e q
  ·rcases mput_key he with q | ⟨e', q, q2⟩
   ·rw [q]; exact ⟨at3_lt h0 h1 h2 _, at3_lt h0 h1 h2 _⟩
   ·rw [← q2]; exact h.key e' q
theorem joinB_ok {F : MapI} {n t : Nat} {v0 v1 v2 : Int} {s : BS} (h : bOk n s) (ht : t < s.M.tris.length) (h0 : v0 < n) (h1 : v1 < n) (h2 : v2 < n) :
  bOk n (joinB F t v0 v1 v2 s) ∧ (joinB F t v0 v1 v2 s).M.tris.length = s.M.tris.length ∧ (joinB F t v0 v1 v2 s).M.pts = s.M.pts ∧ (joinB F t v0 v1 v2 s).M.free = s.M.free := by
 obtain ⟨a1, a2, a3, a4⟩ := joinE_ok (F := F) (i := 0) h ht h0 h1 h2 (by decide)
 obtain ⟨b1, b2, b3, b4⟩ := joinE_ok (F := F) (i := 1) a1 (by rw [a2]; exact ht) h0 h1 h2 (by decide)
 obtain ⟨c1, c2, c3, c4⟩ := joinE_ok (F := F) (i := 2) b1 (by rw [b2, a2]; exact ht) h0 h1 h2 (by decide)
 exact ⟨c1, by show (joinE F t v0 v1 v2 (joinE F t v0 v1 v2 (joinE F t v0 v1 v2 s 0) 1) 2).M.tris.length = _; rw [c2, b2, a2], by show (joinE F t v0 v1 v2 (joinE F t v0 v1 v2 (joinE F t v0 v1 v2 s 0) 1) 2).M.pts = _; rw [c3, b3, a3], by show (joinE F t v0 v1 v2 (joinE F t v0 v1 v2 (joinE F t v0 v1 v2 s 0) 1) 2).M.free = _; rw [c4, b4, a4]⟩
theorem make_ok {n : Nat} {s : BS} (h : bOk n s) (a b c : Int) : 0 ≤ s.M.nextN ∧ s.M.nextN < (s.M.make a b c).tris.length ∧ s.M.tris.length ≤ (s.M.make a b c).tris.length ∧ (s.M.make a b c).tris.length ≤ s.M.tris.length + 1 ∧ bOk n ⟨s.M.make a b c, s.L, s.c⟩ := by
 have hl : s.M.tris.length ≤ (s.M.make a b c).tris.length ∧ (s.M.make a b c).tris.length ≤ s.M.tris.length + 1 := by
  unfold MD.make
  dsimp only
  split <;> simp
 have hn : 0 ≤ s.M.nextN ∧ s.M.nextN < (s.M.make a b c).tris.length := by
  unfold MD.nextN MD.make
  dsimp only
  cases hf : s.M.free.getLast? with
  | none => simp; omega
  | some k =>
   have := h.free k (List.mem_of_getLast? hf)
   simp; omega
 refine ⟨hn.1, hn.2, hl.1, hl.2, ⟨?_, fun k hk => ?_, ?_, fun e he => ?_, h.clk, h.nod, h.key⟩⟩
 ·show (setAt _ _ _).length = n
  simp [setAt_len, h.ats]
 ·have := h.free k (List.dropLast_subset _ hk)
  show _ ∧ _ < ((s.M.make a b c).tris.length : Int)
  omega
 ·show s.M.free.dropLast.length ≤ 4
  have := h.fl
  simp; omega
 ·have := h.op e he
  show (_ ∧ _ < ((s.M.make a b c).tris.length : Int)) ∧ _
  omega
def stepT (F : MapI) (s : BS) (v : Int × Int × Int) : BS := joinB F s.M.nextN.toNat v.1 v.2.1 v.2.2 ⟨s.M.make v.1 v.2.1 v.2.2, s.L, s.c⟩
theorem stepT_ok {F : MapI} {n : Nat} {s : BS} {v : Int × Int × Int} (h : bOk n s) (h0 : v.1 < n) (h1 : v.2.1 < n) (h2 : v.2.2 < n) : bOk n (stepT F s v) ∧ (stepT F s v).M.tris.length ≤ s.M.tris.length + 1 ∧ (stepT F s v).M.pts = s.M.pts := by
 obtain ⟨a1, a2, a3, a4, a5⟩ := make_ok h v.1 v.2.1 v.2.2
 obtain ⟨b1, b2, b3, _⟩ := joinB_ok (F := F) (t := s.M.nextN.toNat) a5 (by dsimp only; omega) h0 h1 h2
 exact ⟨b1, by unfold stepT; rw [b2]; exact a4, by unfold stepT; rw [b3]; rfl⟩
def mesh0 (pts : List (Int × Int)) (a b c : Int) : MD := ((((newM pts a b c).drop 0).drop 1).drop 2).drop 3
def bs0 (pts : List (Int × Int)) (a b c : Int) : BS := ⟨mesh0 pts a b c, [], 0⟩
theorem bs0_ok (pts : List (Int × Int)) (a b c : Int) : bOk pts.length (bs0 pts a b c) := by
 refine ⟨?_, ?_, ?_, (fun e he => nomatch he), (fun e he => nomatch he), List.nodup_nil, (fun e he => nomatch he)⟩
 ·show (newM pts a b c).ats.length = _
  simp [newM, newM0, MD.make, MD.link, setAt_len]
 ·intro k hk
  have hk' : k ∈ [(0 : Int), 1, 2, 3] := hk
  show 0 ≤ k ∧ k < ((4 : Nat) : Int)
  simp at hk'
  omega
 ·show 4 ≤ 4
  exact Nat.le_refl _
end Go.Proofs.Ytbanlhlggkdanaa
namespace Go.Proofs.Ytbanlhlggkdanaa
open Go.RowKit
theorem elt_47 : elt Try.prog 47 = some (34, 3, 24) := by kernel_rfl
theorem elt_149 : elt Try.prog 149 = some (46, 2, 16) := by kernel_rfl
theorem tyi_46 : tyi Try.prog 46 = some (true, 2) := by kernel_rfl
theorem ent_58 : Enter Try.prog 58 = true := by kernel_rfl
theorem zer_28 : zer Try.prog 28 = some (.pointer none) := by kernel_rfl
theorem zer_144 : zer Try.prog 144 = some (.map none) := by kernel_rfl
theorem ulen_47 : ((#[47] : Array TypeId)[0]?).bind Try.prog.underlying = some (.slice (Try.prog.elem ((#[47] : Array TypeId).getD 0 0))) := by kernel_rfl
theorem ulen_149 : ((#[149] : Array TypeId)[0]?).bind Try.prog.underlying = some (.slice (Try.prog.elem ((#[149] : Array TypeId).getD 0 0))) := by kernel_rfl
theorem zer_46 : zer Try.prog 46 = some (.agg #[.int .i64 0, .int .i64 0]) := by kernel_rfl
theorem arrt_46 : arrt Try.prog 46 = some (2, 3, 1) := by kernel_rfl
theorem born_eq {L : MapO} (hn : (L.map (·.2.2)).Nodup) {e e' : (Int × Int) × (Int × Int) × Nat} (h : e ∈ L) (h' : e' ∈ L) (hb : e.2.2 = e'.2.2) : e = e' := by
 induction L with
 | nil => cases h
 | cons x L ih =>
  rw [List.map_cons, List.nodup_cons] at hn
  rcases List.mem_cons.1 h with rfl | h1
  ·rcases List.mem_cons.1 h' with rfl | h'
   ·rfl
   ·exact absurd (hb ▸ List.mem_map.2 ⟨e', h', rfl⟩) hn.1
  ·rcases List.mem_cons.1 h' with rfl | h2
   ·exact absurd (hb ▸ List.mem_map.2 ⟨e, h1, rfl⟩) hn.1
   ·exact ih hn.2 h1 h2
theorem nodup_of_map {α β : Type} {f : α → β} : ∀ {l : List α}, (l.map f).Nodup → l.Nodup
 | [], _ => List.nodup_nil
 | x :: l, h => by
  rw [List.map_cons, List.nodup_cons] at h
  rw [List.nodup_cons]
  exact ⟨fun q => h.1 (List.mem_map.2 ⟨x, q, rfl⟩), nodup_of_map h.2⟩
theorem perm_end {L vis : MapO} (hn : (L.map (·.2.2)).Nodup) (hv : (vis.map (·.2.2)).Nodup) (hs : ∀ e, e ∈ vis → e ∈ L) (he : leftL L (vis.map (·.2.2)) = []) : vis.Perm L := by
 rw [List.perm_ext_iff_of_nodup (nodup_of_map hv) (nodup_of_map hn)]
 intro e
 refine ⟨hs e, fun h => ?_⟩
 have h1 : ¬ e ∈ leftL L (vis.map (·.2.2)) := by rw [he]; simp
 unfold leftL at h1
 rw [List.mem_filter] at h1
 have h2 : e.2.2 ∈ vis.map (·.2.2) := by
  apply Classical.byContradiction
  intro q
  exact h1 ⟨h, by simpa using q⟩
 obtain ⟨e', he', hb⟩ := List.mem_map.1 h2
 rw [born_eq hn h (hs e' he') hb.symm]
 exact he'
theorem left_lt {L : MapO} {seen : List Nat} {e : (Int × Int) × (Int × Int) × Nat} (h : e ∈ leftL L seen) : (leftL L (seen ++ [e.2.2])).length < (leftL L seen).length := by
 have e1 : leftL L (seen ++ [e.2.2]) = (leftL L seen).filter (fun x => !(x.2.2 == e.2.2)) := by
  unfold leftL
  rw [List.filter_filter]
  congr 1
  funext x
  simp only [List.contains_append, List.contains_cons, List.contains_nil, Bool.or_false, Bool.not_or]
  exact Bool.and_comm _ _
 rw [e1]
 exact List.length_filter_lt_length_iff_exists.2 ⟨e, h, by simp⟩
theorem left_mem {L : MapO} {seen : List Nat} {e : (Int × Int) × (Int × Int) × Nat} (h : e ∈ leftL L seen) : e ∈ L ∧ ¬ e.2.2 ∈ seen := by
 unfold leftL at h
 rw [List.mem_filter] at h
 exact ⟨h.1, by simpa using h.2⟩
def buildR (F : MapI) (pts : List (Int × Int)) (a b c : Int) (tris : List (Int × Int × Int)) : BS := tris.foldl (stepT F) (bs0 pts a b c)
def stepG (F : MapI) (s : BS) (e : (Int × Int) × (Int × Int) × Nat) : BS := stepT F s (e.1.2, e.1.1, -1)
def buildG (F : MapI) (s : BS) (border : MapO) : BS := border.foldl (stepG F) s
theorem mput_len {κ ν : Type} [DecidableEq κ] {k : κ} {v : ν} {l : List (κ × ν × Nat)} {c : Nat} : (mput k v l c).length ≤ l.length + 1 := by
 unfold mput
 split <;> simp
theorem mdel_len {κ ν : Type} [DecidableEq κ] {k : κ} {l : List (κ × ν × Nat)} : (mdel k l).length ≤ l.length := by
 unfold mdel
 split
 ·exact (List.eraseIdx_sublist _ _).length_le
 ·exact Nat.le_refl _
theorem joinE_L {F : MapI} {t : Nat} {v0 v1 v2 : Int} {s : BS} {i : Nat} : (joinE F t v0 v1 v2 s i).L.length ≤ s.L.length + 1 := by
 unfold joinE
 split
 ·exact Nat.le_succ_of_le mdel_len
 ·exact mput_len
theorem foldR_L {F : MapI} : ∀ (l : List (Int × Int × Int)) {s : BS}, (l.foldl (stepT F) s).L.length ≤ s.L.length + 3 * l.length
 | [], s => by simp
 | v :: l, s => by
  have h1 := foldR_L (F := F) l (s := stepT F s v)
  have h2 : (stepT F s v).L.length ≤ s.L.length + 3 := by
   show (joinE F _ _ _ _ (joinE F _ _ _ _ (joinE F _ _ _ _ _ 0) 1) 2).L.length ≤ _
   exact Nat.le_trans joinE_L (Nat.succ_le_succ (Nat.le_trans joinE_L (Nat.succ_le_succ joinE_L)))
  rw [List.foldl_cons, List.length_cons]
  omega
theorem take_step {α : Type} {l : List α} {k : Nat} {x : α} {β : Type} (g : β → α → β) (b : β) (h : l[k]? = some x) : (l.take (k + 1)).foldl g b = g ((l.take k).foldl g b) x := by
 rw [List.take_add_one, h, List.foldl_append]; rfl
theorem get_at {α : Type} {l : List α} {k : Nat} (h : ((k : Nat) : Int) < (l.length : Nat)) : ∃ x, l[k]? = some x := ⟨l[k]'(by omega), List.getElem?_eq_getElem (by omega)⟩
theorem newM_len (pts : List (Int × Int)) (a b c : Int) : (newM pts a b c).tris.length = 4 := rfl
theorem newM_free (pts : List (Int × Int)) (a b c : Int) : (newM pts a b c).free = [] := rfl
def buildFs (A TA : Option Addr) (rf : Nat) (pts : List (Int × Int)) (tris : List (Int × Int × Int)) (F : MapI) (cF : Nat) : List Res := [sliceR 2 A pts.length (ptCells pts), sliceR 3 TA tris.length (t3Cells tris), mapR rf fK gI F cF]
set_option maxRecDepth 100000 in
set_option maxHeartbeats 16000000 in
theorem build_c {A TA : Option Addr} {pts : List (Int × Int)} {cp cT rf a b c : Nat} {rest : List (Int × Int × Int)} {F : MapI} {cF : Nat} (hpl : pts.length ≤ 100000) (hrl : rest.length ≤ 100000) (hv1 : ∀ x, x ∈ [(a, b, c)] → x.1 < pts.length ∧ x.2.1 < pts.length ∧ x.2.2 < pts.length) (hv : ∀ x, x ∈ rest → x.1 < pts.length ∧ x.2.1 < pts.length ∧ x.2.2 < pts.length) (hP : ∀ j, j < pts.length → P2 (pts.getD j (0, 0)).1 (pts.getD j (0, 0)).2) (hA : 0 < pA pts a b c) : Tri Try.prog 58 [.slice A pts.length cp, .slice TA (((a : Int), (b : Int), (c : Int)) :: rest).length cT, .map (some rf)] [] (buildFs A TA rf pts (((a : Int), (b : Int), (c : Int)) :: rest) F cF) (RetX (fun (x : Nat × MapO) => x.2.Perm (buildR F pts a b c (((a : Int), (b : Int), (c : Int)) :: rest)).L) (fun x => .pointer (some ⟨x.1, 0, none⟩)) (fun x => [meshR x.1 (buildG F (buildR F pts a b c (((a : Int), (b : Int), (c : Int)) :: rest)) x.2).M]) (fun _ => [])) := by
 refine Tri_of (N := 104) Try.func58 rfl ent_58 rfl rfl ?_
 intro w0 S0 T0
 show CJ _ _ _ [(0, _), (1, _), (2, _)] _ _
 have hva : ∀ x, x ∈ (((a : Int), (b : Int), (c : Int)) :: rest) → x.1 < pts.length ∧ x.2.1 < pts.length ∧ x.2.2 < pts.length := by
  intro x hx
  rcases List.mem_cons.1 hx with rfl | hx
  ·have := hv1 _ (.head _); dsimp only at this ⊢; omega
  ·exact hv x hx
 have hp0 : 0 < pts.length := by have := (hv1 _ (.head _)).1; omega
 have hTL : (((a : Int), (b : Int), (c : Int)) :: rest).length ≤ 100001 := by simp; omega
 refine CJ_seq ?_
 refine CJ_reg ?_
 refine LJ_box (cs := #[_]) rfl rfl rfl rfl ?_
 intro b1
 refine LJ_freeze ?_
 refine LJ_addF (r' := sliceR 1 (some ⟨b1, 0, none⟩) 1 [.map (some rf)]) (.head _) (fun w S h => cellsR_slice (n := 1) rfl w S h) ?_
 refine LJ_y rfl rfl (YJ_assign rfl) ?_
 refine LJ_nil ?_
 refine QJ_then ?_
 refine CJ_seq ?_
 refine CJ_regDA mix (by kernel_rfl) (fun _ _ _ _ _ h => h) _ _ (fun _ h => h) (fun _ h => h) [⟨17, 7, 28, #[.pointer none]⟩] 19 rfl (And.intro ⟨_, _, _, _, rfl, zer_28, rfl⟩ (trivial)) rfl rfl ?_
 refine AA_y 0 rfl (by kernel_rfl) rfl rfl rfl (YJ_move rfl) ?_
 refine AA_y 1 rfl (by kernel_rfl) rfl rfl rfl (YJ_move rfl) ?_
 refine AA_y 2 rfl (by kernel_rfl) rfl rfl rfl (YJ_ixFact (n' := (((a : Int), (b : Int), (c : Int)) :: rest).length) rfl rfl elt_47 m3 (by decide) (by omega) (by simp only [List.length_cons]; omega) (by simp only [List.length_cons]; omega)) ?_
 refine AA_y 3 rfl (by kernel_rfl) rfl rfl rfl (YJ_ixArrP rfl rfl arrt_34 (by omega) (by omega)) ?_
 refine AA_y 4 rfl (by kernel_rfl) rfl rfl rfl (YJ_loadFactP (A := TA) (j := (0 : Int).toNat * 3 + (0 : Int).toNat * 1) (xs := t3Cells (((a : Int), (b : Int), (c : Int)) :: rest)) rfl (Addr.add_add ..) tyi_3 m3 rfl) ?_
 refine AA_y 5 rfl (by kernel_rfl) rfl rfl rfl (YJ_move rfl) ?_
 refine AA_y 6 rfl (by kernel_rfl) rfl rfl rfl (YJ_ixFact (n' := (((a : Int), (b : Int), (c : Int)) :: rest).length) rfl rfl elt_47 m3 (by decide) (by omega) (by simp only [List.length_cons]; omega) (by simp only [List.length_cons]; omega)) ?_
 refine AA_y 7 rfl (by kernel_rfl) rfl rfl rfl (YJ_ixArrP rfl rfl arrt_34 (by omega) (by omega)) ?_
 refine AA_y 8 rfl (by kernel_rfl) rfl rfl rfl (YJ_loadFactP (A := TA) (j := (0 : Int).toNat * 3 + (1 : Int).toNat * 1) (xs := t3Cells (((a : Int), (b : Int), (c : Int)) :: rest)) rfl (Addr.add_add ..) tyi_3 m3 rfl) ?_
 refine AA_y 9 rfl (by kernel_rfl) rfl rfl rfl (YJ_move rfl) ?_
 refine AA_y 10 rfl (by kernel_rfl) rfl rfl rfl (YJ_ixFact (n' := (((a : Int), (b : Int), (c : Int)) :: rest).length) rfl rfl elt_47 m3 (by decide) (by omega) (by simp only [List.length_cons]; omega) (by simp only [List.length_cons]; omega)) ?_
 refine AA_y 11 rfl (by kernel_rfl) rfl rfl rfl (YJ_ixArrP rfl rfl arrt_34 (by omega) (by omega)) ?_
 refine AA_y 12 rfl (by kernel_rfl) rfl rfl rfl (YJ_loadFactP (A := TA) (j := (0 : Int).toNat * 3 + (2 : Int).toNat * 1) (xs := t3Cells (((a : Int), (b : Int), (c : Int)) :: rest)) rfl (Addr.add_add ..) tyi_3 m3 rfl) ?_
 refine AA_callN 13 rfl (by kernel_rfl) rfl rfl rfl rfl rfl rfl rfl (new_pos (pts := pts) (a := a) (b := b) (c := c) hpl (hv1 _ (.head _)).1 (hv1 _ (.head _)).2.1 (hv1 _ (.head _)).2.2 hP hA) (fun r h => by rw [List.mem_singleton] at h; subst h; simp [buildFs]) ?_
 intro Bm _
 refine AA_y 14 rfl (by kernel_rfl) rfl rfl rfl (YJ_move rfl) ?_
 refine AA_y 15 rfl (by kernel_rfl) rfl rfl rfl (YJ_extract rfl rfl) ?_
 refine AA_y 16 rfl (by kernel_rfl) rfl rfl rfl (YJ_extract rfl rfl) ?_
 refine AA_end (by kernel_rfl) rfl ?_
 intro bs hbs
 obtain ⟨b2, rfl⟩ := len_1 hbs
 clear hbs
 show AJ _ _ _ _ _ _ _ ((7, .pointer (some ⟨b2, 0, none⟩)) :: _) (cellsR b2 _ _ :: _) _
 refine AJ_store (cs' := #[_]) (μ' := [_, _]) 18 0 rfl (by kernel_rfl) rfl rfl rfl rfl tyi_28 rfl (Nat.le_of_ble_eq_true rfl) rfl rfl rfl (fun _ => AllIn.sub (trivial)) ?_
 refine AJ_y 19 rfl (by kernel_rfl) (by kernel_rfl) rfl rfl (YJ_assign rfl) ?_
 refine AJ_done (by kernel_rfl) ?_
 refine QJ_then ?_
 refine CJ_seq ?_
 refine CJ_seq ?_
 refine CJ_reg ?_
 refine LJ_y rfl rfl (YJ_move rfl) ?_
 refine LJ_y rfl rfl (YJ_not rfl) ?_
 refine LJ_nil ?_
 refine QJ_then ?_
 refine CJ_condF rfl ?_
 refine CJ_skip ?_
 refine QJ_then ?_
 refine CJ_seq ?_
 refine CJ_seq ?_
 refine CJ_openAt (f := meshL Bm (newM pts a b c)) 1 rfl (fun hd => ?_)
 obtain ⟨P9, cP9, T9, cT9, F9, cF9, A9, cA9⟩ := hd
 show CJ _ _ _ _ (_ :: _ :: _ :: _ :: _ :: _ :: _) _
 refine CJ_reg ?_
 refine LJ_y rfl rfl (YJ_loadL rfl tyi_28 m5 rfl) ?_
 refine LJ_y rfl rfl (YJ_nilCheck rfl) ?_
 refine LJ_y rfl rfl (YJ_fieldOwn rfl fld_57_1 rfl) ?_
 refine LJ_y rfl rfl (YJ_loadL rfl tyi_54 m0 rfl) ?_
 refine LJ_y rfl rfl (YJ_len rfl ulen_54 rfl) ?_
 refine LJ_val (v := .int .i64 4) (rfl) ?_
 refine LJ_closeMesh (newM pts a b c) (μr := [_]) (permI [] rfl) ⟨rfl, rfl⟩ ⟨rfl, rfl⟩ ⟨rfl, rfl⟩ ⟨rfl, rfl⟩ ?_
 refine LJ_y rfl rfl (YJ_move rfl) ?_
 refine LJ_nil ?_
 refine QJ_then ?_
 refine CJ_block ?_
 refine CJ_loopN 5 ?_
 refine CN_succ ?_
 refine CJ_seq ?_
 refine CJ_reg ?_
 refine LJ_y rfl rfl (YJ_bin rfl rfl rfl) ?_
 refine LJ_nil ?_
 refine QJ_then ?_
 refine CJ_seq ?_
 refine CJ_condT rfl ?_
 refine CJ_skip ?_
 refine QJ_then ?_
 refine CJ_seq ?_
 refine CJ_block ?_
 refine CJ_seq ?_
 refine CJ_reg ?_
 refine LJ_y rfl rfl (YJ_move rfl) ?_
 refine LJ_y rfl rfl (YJ_assign rfl) ?_
 refine LJ_nil ?_
 refine QJ_then ?_
 refine CJ_reg ?_
 refine LJ_y rfl rfl (YJ_loadL rfl tyi_28 m1 rfl) ?_
 refine LJ_y rfl rfl (YJ_move rfl) ?_
 refine LJ_val (v := .int .i64 ((0 : Nat) : Int)) (rfl) ?_
 refine LJ_call1 0 rfl rfl rfl rfl rfl rfl (drop_c (t := 0) (by simp [MD.drop, newM_len, newM_free]; try omega) (by simp [MD.drop, newM_len, newM_free]; try omega) (by simp [MD.drop, newM_len, newM_free]; try omega)) (fun _ h => nomatch h) ?_
 show LJ _ _ _ _ _ (_ :: _ :: _) _
 refine LJ_nil ?_
 refine QJ_in_normal ?_
 refine QJ_then ?_
 refine CJ_reg ?_
 refine LJ_y rfl rfl (YJ_bin rfl rfl (iop_add (by omega))) ?_
 refine LJ_y rfl rfl (YJ_move rfl) ?_
 refine LJ_nil ?_
 refine QJ_thenN ?_
 refine CN_succ ?_
 refine CJ_seq ?_
 refine CJ_reg ?_
 refine LJ_y rfl rfl (YJ_bin rfl rfl rfl) ?_
 refine LJ_nil ?_
 refine QJ_then ?_
 refine CJ_seq ?_
 refine CJ_condT rfl ?_
 refine CJ_skip ?_
 refine QJ_then ?_
 refine CJ_seq ?_
 refine CJ_block ?_
 refine CJ_seq ?_
 refine CJ_reg ?_
 refine LJ_y rfl rfl (YJ_move rfl) ?_
 refine LJ_y rfl rfl (YJ_assign rfl) ?_
 refine LJ_nil ?_
 refine QJ_then ?_
 refine CJ_reg ?_
 refine LJ_y rfl rfl (YJ_loadL rfl tyi_28 m1 rfl) ?_
 refine LJ_y rfl rfl (YJ_move rfl) ?_
 refine LJ_val (v := .int .i64 ((1 : Nat) : Int)) (rfl) ?_
 refine LJ_call1 0 rfl rfl rfl rfl rfl rfl (drop_c (t := 1) (by simp [MD.drop, newM_len, newM_free]; try omega) (by simp [MD.drop, newM_len, newM_free]; try omega) (by simp [MD.drop, newM_len, newM_free]; try omega)) (fun _ h => nomatch h) ?_
 show LJ _ _ _ _ _ (_ :: _ :: _) _
 refine LJ_nil ?_
 refine QJ_in_normal ?_
 refine QJ_then ?_
 refine CJ_reg ?_
 refine LJ_y rfl rfl (YJ_bin rfl rfl (iop_add (by omega))) ?_
 refine LJ_y rfl rfl (YJ_move rfl) ?_
 refine LJ_nil ?_
 refine QJ_thenN ?_
 refine CN_succ ?_
 refine CJ_seq ?_
 refine CJ_reg ?_
 refine LJ_y rfl rfl (YJ_bin rfl rfl rfl) ?_
 refine LJ_nil ?_
 refine QJ_then ?_
 refine CJ_seq ?_
 refine CJ_condT rfl ?_
 refine CJ_skip ?_
 refine QJ_then ?_
 refine CJ_seq ?_
 refine CJ_block ?_
 refine CJ_seq ?_
 refine CJ_reg ?_
 refine LJ_y rfl rfl (YJ_move rfl) ?_
 refine LJ_y rfl rfl (YJ_assign rfl) ?_
 refine LJ_nil ?_
 refine QJ_then ?_
 refine CJ_reg ?_
 refine LJ_y rfl rfl (YJ_loadL rfl tyi_28 m1 rfl) ?_
 refine LJ_y rfl rfl (YJ_move rfl) ?_
 refine LJ_val (v := .int .i64 ((2 : Nat) : Int)) (rfl) ?_
 refine LJ_call1 0 rfl rfl rfl rfl rfl rfl (drop_c (t := 2) (by simp [MD.drop, newM_len, newM_free]; try omega) (by simp [MD.drop, newM_len, newM_free]; try omega) (by simp [MD.drop, newM_len, newM_free]; try omega)) (fun _ h => nomatch h) ?_
 show LJ _ _ _ _ _ (_ :: _ :: _) _
 refine LJ_nil ?_
 refine QJ_in_normal ?_
 refine QJ_then ?_
 refine CJ_reg ?_
 refine LJ_y rfl rfl (YJ_bin rfl rfl (iop_add (by omega))) ?_
 refine LJ_y rfl rfl (YJ_move rfl) ?_
 refine LJ_nil ?_
 refine QJ_thenN ?_
 refine CN_succ ?_
 refine CJ_seq ?_
 refine CJ_reg ?_
 refine LJ_y rfl rfl (YJ_bin rfl rfl rfl) ?_
 refine LJ_nil ?_
 refine QJ_then ?_
 refine CJ_seq ?_
 refine CJ_condT rfl ?_
 refine CJ_skip ?_
 refine QJ_then ?_
 refine CJ_seq ?_
 refine CJ_block ?_
 refine CJ_seq ?_
 refine CJ_reg ?_
 refine LJ_y rfl rfl (YJ_move rfl) ?_
 refine LJ_y rfl rfl (YJ_assign rfl) ?_
 refine LJ_nil ?_
 refine QJ_then ?_
 refine CJ_reg ?_
 refine LJ_y rfl rfl (YJ_loadL rfl tyi_28 m1 rfl) ?_
 refine LJ_y rfl rfl (YJ_move rfl) ?_
 refine LJ_val (v := .int .i64 ((3 : Nat) : Int)) (rfl) ?_
 refine LJ_call1 0 rfl rfl rfl rfl rfl rfl (drop_c (t := 3) (by simp [MD.drop, newM_len, newM_free]; try omega) (by simp [MD.drop, newM_len, newM_free]; try omega) (by simp [MD.drop, newM_len, newM_free]; try omega)) (fun _ h => nomatch h) ?_
 show LJ _ _ _ _ _ (_ :: _ :: _) _
 refine LJ_nil ?_
 refine QJ_in_normal ?_
 refine QJ_then ?_
 refine CJ_reg ?_
 refine LJ_y rfl rfl (YJ_bin rfl rfl (iop_add (by omega))) ?_
 refine LJ_y rfl rfl (YJ_move rfl) ?_
 refine LJ_nil ?_
 refine QJ_thenN ?_
 refine CN_succ ?_
 refine CJ_seq ?_
 refine CJ_reg ?_
 refine LJ_y rfl rfl (YJ_bin rfl rfl rfl) ?_
 refine LJ_nil ?_
 refine QJ_then ?_
 refine CJ_seq ?_
 refine CJ_condF rfl ?_
 refine CJ_exit ?_
 refine QJ_then_exit ?_
 refine QJ_then_exit ?_
 refine QJ_in_exit ?_
 refine QJ_then ?_
 refine CJ_seq ?_
 refine CJ_reg ?_
 refine LJ_makeMap rfl rfl ?_
 intro om
 refine LJ_alloc (cs := #[_]) rfl rfl zer_144 rfl ?_
 intro b4
 refine LJ_store (cs' := #[_]) (μ' := [_, _, _, _]) 0 rfl rfl rfl rfl tyi_144 rfl (Nat.le_of_ble_eq_true rfl) rfl rfl rfl ?_
 refine LJ_freeze ?_
 refine LJ_addF (r' := sliceR 1 (some ⟨b4, 0, none⟩) 1 [.map (some om)]) (.head _) (fun w S h => cellsR_slice (n := 1) rfl w S h) ?_
 refine LJ_nil ?_
 refine QJ_then ?_
 refine CJ_seq ?_
 refine CJ_freezeCells (size := 1) (n := 1) (xs := [.pointer (some ⟨Bm, 0, none⟩)]) 2 rfl rfl rfl ?_
 show CJ _ _ _ _ (_ :: _ :: _) _
 refine CJ_reg ?_
 refine LJ_y rfl rfl (YJ_makeFunc (vs := []) (us := [_, _, _]) rfl rfl) ?_
 refine LJ_y rfl rfl (YJ_assign rfl) ?_
 refine LJ_nil ?_
 refine QJ_then ?_
 refine CJ_seq ?_
 refine CJ_seq ?_
 refine CJ_reg ?_
 refine LJ_y rfl rfl (YJ_move rfl) ?_
 refine LJ_y rfl rfl (YJ_len rfl ulen_47 rfl) ?_
 refine LJ_y rfl rfl (YJ_move rfl) ?_
 refine LJ_nil ?_
 refine QJ_then ?_
 refine CJ_block ?_
 refine CJ_loopF (F := fun (i : Nat × BS) => ⟨[(1, .slice TA (((a : Int), (b : Int), (c : Int)) :: rest).length cT), (7, .pointer (some ⟨b2, 0, none⟩)), (10, .pointer (some ⟨b4, 0, none⟩)), (11, .func (.func 86) #[] #[.pointer (some ⟨b4, 0, none⟩), .pointer (some ⟨b2, 0, none⟩), .pointer (some ⟨b1, 0, none⟩)]), (52, .slice TA (((a : Int), (b : Int), (c : Int)) :: rest).length cT), (53, .int .i64 (((a : Int), (b : Int), (c : Int)) :: rest).length), (54, .int .i64 (i.1 : Nat))], [mapR om fK fK i.2.L i.2.c, meshR Bm i.2.M], []⟩) (I := fun (i : Nat × BS) => i.1 ≤ (((a : Int), (b : Int), (c : Int)) :: rest).length ∧ i.2 = ((((a : Int), (b : Int), (c : Int)) :: rest).take i.1).foldl (stepT F) (bs0 pts a b c) ∧ bOk pts.length i.2 ∧ i.2.M.tris.length ≤ 4 + i.1) (m := fun (i : Nat × BS) => (((a : Int), (b : Int), (c : Int)) :: rest).length - i.1) (0, bs0 pts a b c) (μr := []) ⟨Nat.zero_le _, rfl, bs0_ok pts a b c, Nat.le_refl _⟩ (And.intro rfl (And.intro rfl (And.intro rfl (And.intro rfl (And.intro rfl (And.intro rfl (And.intro rfl (trivial)))))))) (permI [] rfl) (fun _ h => nomatch h) ?_
 rintro ⟨k, s⟩ ⟨hk, hs, hb, hl⟩
 try dsimp only at hk
 try dsimp only at hs
 try dsimp only at hb
 try dsimp only at hl
 show CJ _ _ _ [(1, .slice TA (((a : Int), (b : Int), (c : Int)) :: rest).length cT), (7, .pointer (some ⟨b2, 0, none⟩)), (10, .pointer (some ⟨b4, 0, none⟩)), (11, .func (.func 86) #[] #[.pointer (some ⟨b4, 0, none⟩), .pointer (some ⟨b2, 0, none⟩), .pointer (some ⟨b1, 0, none⟩)]), (52, .slice TA (((a : Int), (b : Int), (c : Int)) :: rest).length cT), (53, .int .i64 (((a : Int), (b : Int), (c : Int)) :: rest).length), (54, .int .i64 (k : Nat))] (mapR om fK fK s.L s.c :: meshR Bm s.M :: _) _
 refine CJ_seq ?_
 refine CJ_reg ?_
 refine LJ_y rfl rfl (YJ_bin rfl rfl rfl) ?_
 refine LJ_nil ?_
 refine QJ_then ?_
 refine CJ_seq ?_
 refine CJ_cond rfl (fun h55 => ?_) (fun h55 => ?_)
 ·simp only [decide_eq_true_eq] at h55
  obtain ⟨x, hx⟩ := get_at h55
  have hxm := hva x (List.mem_of_getElem? hx)
  obtain ⟨hx0, hx1, hx2⟩ := hxm
  obtain ⟨hn0, hn1, hm0, hm1, hmk⟩ := make_ok hb (x.1) (x.2.1) (x.2.2)
  refine CJ_skip ?_
  refine QJ_then ?_
  refine CJ_seq ?_
  refine CJ_block ?_
  refine CJ_seq ?_
  refine CJ_reg ?_
  refine LJ_y rfl rfl (YJ_ixFact (n' := (((a : Int), (b : Int), (c : Int)) :: rest).length) rfl rfl elt_47 m6 (by decide) (by omega) (by omega) (by omega)) ?_
  refine LJ_y rfl rfl (YJ_loadFactN (vs := [.int .i64 x.1, .int .i64 x.2.1, .int .i64 x.2.2]) (xs := t3Cells (((a : Int), (b : Int), (c : Int)) :: rest)) rfl tyi_34 m6 (t3_row hx) rfl) ?_
  refine LJ_alloc (cs := #[_, _, _]) rfl rfl zer_34 rfl ?_
  intro b5
  refine LJ_store (cs' := #[_, _, _]) (μ' := [_, _, _]) 0 rfl rfl rfl rfl tyi_34 rfl (Nat.le_of_ble_eq_true rfl) rfl rfl rfl ?_
  refine LJ_nil ?_
  refine QJ_then ?_
  refine CJ_regD mix (by kernel_rfl) (fun _ _ _ _ _ h => h) (selR [0] _) _ (selR_sub _ _) (fun _ h => h) ?_
  refine AJ_y 0 rfl (by kernel_rfl) (by kernel_rfl) rfl rfl (YJ_move rfl) ?_
  refine AJ_y 1 rfl (by kernel_rfl) (by kernel_rfl) rfl rfl (YJ_loadFactP (A := some ⟨b2, 0, none⟩) (j := 0) rfl rfl tyi_28 m0 rfl) ?_
  refine AJ_y 2 rfl (by kernel_rfl) (by kernel_rfl) rfl rfl (YJ_ixArr rfl rfl arrt_34 (by omega) (by omega) rfl) ?_
  refine AJ_y 3 rfl (by kernel_rfl) (by kernel_rfl) rfl rfl (YJ_loadL rfl tyi_3 m0 rfl) ?_
  refine AJ_y 4 rfl (by kernel_rfl) (by kernel_rfl) rfl rfl (YJ_ixArr rfl rfl arrt_34 (by omega) (by omega) rfl) ?_
  refine AJ_y 5 rfl (by kernel_rfl) (by kernel_rfl) rfl rfl (YJ_loadL rfl tyi_3 m0 rfl) ?_
  refine AJ_y 6 rfl (by kernel_rfl) (by kernel_rfl) rfl rfl (YJ_ixArr rfl rfl arrt_34 (by omega) (by omega) rfl) ?_
  refine AJ_y 7 rfl (by kernel_rfl) (by kernel_rfl) rfl rfl (YJ_loadL rfl tyi_3 m0 rfl) ?_
  refine AJ_y 9 rfl (by kernel_rfl) (by kernel_rfl) rfl rfl (YJ_loadN (vs := [_, _, _]) rfl tyi_34 m0 rfl rfl) ?_
  refine AJ_call1 8 2 rfl (by kernel_rfl) rfl rfl rfl rfl rfl rfl (make_c (a := x.1) (b := x.2.1) (c := x.2.2) (by omega) (by have := hb.fl; omega) hb.free (by rw [hb.ats]; omega) (by rw [hb.ats]; omega) (by rw [hb.ats]; omega) (by rw [hb.ats]; exact hp0)) (fun _ h => nomatch h) (AllIn.sub (And.intro m0 (trivial))) ?_
  show AJ _ _ _ _ _ _ _ _ (_ :: _ :: _ :: _) _
  refine AJ_val (v := .int .i64 ((s.M.nextN.toNat : Nat) : Int)) (congrArg (Value.int .i64) (by omega)) ?_
  refine AJ_callP (μ1 := [_, _]) (μr := [_]) 10 rfl (by kernel_rfl) (permI [1, 1] rfl) rfl rfl rfl rfl rfl (join_c (bo := b4) (ro := om) (bm := b2) (B := Bm) (bf := b1) (rf := rf) (F := F) (cF := cF) (n := s.M.nextN.toNat) (s0 := ⟨s.M.make (x.1) (x.2.1) (x.2.2), s.L, s.c⟩) (by dsimp only; omega) (by dsimp only; omega) hmk.op) (fun r hr => by simp only [joinFs, buildFs, List.mem_cons, List.not_mem_nil, or_false, List.append_assoc, List.cons_append, List.nil_append] at *; grind) (fun _ => AllIn.sub (And.intro m2 (trivial))) ?_
  intro _ _
  show AJ _ _ _ _ _ _ _ _ (_ :: _ :: _ :: _) _
  refine AJ_done (by kernel_rfl) ?_
  refine QJ_in_normal ?_
  refine QJ_then ?_
  refine CJ_reg ?_
  refine LJ_y rfl rfl (YJ_bin rfl rfl (iop_add (by omega))) ?_
  refine LJ_y rfl rfl (YJ_move rfl) ?_
  refine LJ_nil ?_
  refine QJ_roundF (F := fun (i : Nat × BS) => ⟨[(1, .slice TA (((a : Int), (b : Int), (c : Int)) :: rest).length cT), (7, .pointer (some ⟨b2, 0, none⟩)), (10, .pointer (some ⟨b4, 0, none⟩)), (11, .func (.func 86) #[] #[.pointer (some ⟨b4, 0, none⟩), .pointer (some ⟨b2, 0, none⟩), .pointer (some ⟨b1, 0, none⟩)]), (52, .slice TA (((a : Int), (b : Int), (c : Int)) :: rest).length cT), (53, .int .i64 (((a : Int), (b : Int), (c : Int)) :: rest).length), (54, .int .i64 (i.1 : Nat))], [mapR om fK fK i.2.L i.2.c, meshR Bm i.2.M], []⟩) (I := fun (i : Nat × BS) => i.1 ≤ (((a : Int), (b : Int), (c : Int)) :: rest).length ∧ i.2 = ((((a : Int), (b : Int), (c : Int)) :: rest).take i.1).foldl (stepT F) (bs0 pts a b c) ∧ bOk pts.length i.2 ∧ i.2.M.tris.length ≤ 4 + i.1) (m := fun (i : Nat × BS) => (((a : Int), (b : Int), (c : Int)) :: rest).length - i.1) (i := (k, s)) ((k + 1, stepT F s x)) (μd := [_]) ⟨by omega, by dsimp only; rw [take_step _ _ hx, ← hs], (stepT_ok hb hx0 hx1 hx2).1, by have := (stepT_ok (F := F) hb hx0 hx1 hx2).2.1; dsimp only; omega⟩ (by dsimp only; omega) (And.intro rfl (And.intro rfl (And.intro rfl (And.intro rfl (And.intro rfl (And.intro rfl (And.intro rfl (trivial)))))))) (permI [] rfl) (fun _ h => nomatch h) (fun _ h => h)
 ·simp only [decide_eq_false_iff_not] at h55
  have hk9 : k = (((a : Int), (b : Int), (c : Int)) :: rest).length := by omega
  have hs9 : s = buildR F pts a b c (((a : Int), (b : Int), (c : Int)) :: rest) := by rw [hs, hk9, List.take_length]; rfl
  subst hs9
  have hbR := hb
  have hLl : (buildR F pts a b c (((a : Int), (b : Int), (c : Int)) :: rest)).L.length ≤ 3 * (((a : Int), (b : Int), (c : Int)) :: rest).length := by have := foldR_L (F := F) (s := bs0 pts a b c) (((a : Int), (b : Int), (c : Int)) :: rest); have h0 : (bs0 pts a b c).L.length = 0 := rfl; rw [h0] at this; rw [Nat.zero_add] at this; exact this
  refine CJ_exit ?_
  refine QJ_then_exit ?_
  refine QJ_then_exit ?_
  refine QJ_in_exit ?_
  refine QJ_then ?_
  refine CJ_seq ?_
  refine CJ_newRow 46 2 ?_
  refine CJ_reg ?_
  refine LJ_y rfl rfl (YJ_assign rfl) ?_
  refine LJ_nil ?_
  refine QJ_then ?_
  refine CJ_seq ?_
  refine CJ_seq ?_
  refine CJ_reg ?_
  refine LJ_y rfl rfl (YJ_loadFactP (A := some ⟨b4, 0, none⟩) (j := 0) rfl rfl tyi_144 m1 rfl) ?_
  refine LJ_range (f := fK) (g := fK) rfl rfl rfl umap_144 (MapAt_own (l := (buildR F pts a b c (((a : Int), (b : Int), (c : Int)) :: rest)).L) (c := (buildR F pts a b c (((a : Int), (b : Int), (c : Int)) :: rest)).c) m1) ?_
  intro it
  refine LJ_nil ?_
  refine QJ_then ?_
  refine CJ_block ?_
  refine CJ_loopF (F := fun (i : MapO × List Nat × Nat × Option Addr × Nat) => ⟨[(1, .slice TA (((a : Int), (b : Int), (c : Int)) :: rest).length cT), (7, .pointer (some ⟨b2, 0, none⟩)), (10, .pointer (some ⟨b4, 0, none⟩)), (11, .func (.func 86) #[] #[.pointer (some ⟨b4, 0, none⟩), .pointer (some ⟨b2, 0, none⟩), .pointer (some ⟨b1, 0, none⟩)]), (14, .slice i.2.2.2.1 i.2.2.1 i.2.2.2.2), (71, .pointer (some ⟨it, 0, none⟩))], [itR it om (buildR F pts a b c (((a : Int), (b : Int), (c : Int)) :: rest)).c i.2.1 (buildR F pts a b c (((a : Int), (b : Int), (c : Int)) :: rest)).c, rowR 46 2 i.2.2.2.1 i.2.2.1 i.2.2.2.2 (kCells i.1)], []⟩) (I := fun (i : MapO × List Nat × Nat × Option Addr × Nat) => i.2.1 = i.1.map (·.2.2) ∧ i.2.2.1 = i.1.length ∧ (i.1.map (·.2.2)).Nodup ∧ (∀ e, e ∈ i.1 → e ∈ (buildR F pts a b c (((a : Int), (b : Int), (c : Int)) :: rest)).L) ∧ (leftL (buildR F pts a b c (((a : Int), (b : Int), (c : Int)) :: rest)).L i.2.1).length + i.1.length ≤ (buildR F pts a b c (((a : Int), (b : Int), (c : Int)) :: rest)).L.length) (m := fun (i : MapO × List Nat × Nat × Option Addr × Nat) => (leftL (buildR F pts a b c (((a : Int), (b : Int), (c : Int)) :: rest)).L i.2.1).length) ([], [], 0, none, 0) (μr := [_, _]) ⟨rfl, rfl, List.nodup_nil, (fun _ h => nomatch h), List.length_filter_le _ _⟩ (And.intro rfl (And.intro rfl (And.intro rfl (And.intro rfl (And.intro rfl (And.intro rfl (trivial))))))) (permI [] rfl) (fun _ h => nomatch h) ?_
  rintro ⟨vis, seen, nv, A0, c0⟩ ⟨hse, hnv, hvn, hvs, hvl⟩
  try dsimp only at hse
  try dsimp only at hnv
  try dsimp only at hvn
  try dsimp only at hvs
  try dsimp only at hvl
  show CJ _ _ _ [(1, .slice TA (((a : Int), (b : Int), (c : Int)) :: rest).length cT), (7, .pointer (some ⟨b2, 0, none⟩)), (10, .pointer (some ⟨b4, 0, none⟩)), (11, .func (.func 86) #[] #[.pointer (some ⟨b4, 0, none⟩), .pointer (some ⟨b2, 0, none⟩), .pointer (some ⟨b1, 0, none⟩)]), (14, .slice A0 nv c0), (71, .pointer (some ⟨it, 0, none⟩))] (itR it om (buildR F pts a b c (((a : Int), (b : Int), (c : Int)) :: rest)).c seen (buildR F pts a b c (((a : Int), (b : Int), (c : Int)) :: rest)).c :: rowR 46 2 A0 nv c0 (kCells vis) :: _ :: _ :: _) _
  refine CJ_seq ?_
  refine CJ_reg ?_
  refine LJ_next (f := fK) (g := fK) 0 rfl rfl rfl rfl (MapAt_own (l := (buildR F pts a b c (((a : Int), (b : Int), (c : Int)) :: rest)).L) (c := (buildR F pts a b c (((a : Int), (b : Int), (c : Int)) :: rest)).c) m2) hb.clk (Nat.le_refl _) (fun h72 => ?_) (fun e72 he72 => ?_)
  ·show LJ _ _ _ _ _ (_ :: _ :: _ :: _ :: _) _
   subst hse
   subst hnv
   have hperm := perm_end hb.nod hvn hvs h72
   have hvl := hperm.length_eq
   refine LJ_y rfl rfl (YJ_extract rfl rfl) ?_
   refine LJ_nil ?_
   refine QJ_then ?_
   refine CJ_seq ?_
   refine CJ_condF rfl ?_
   refine CJ_exit ?_
   refine QJ_then_exit ?_
   refine QJ_then_exit ?_
   refine QJ_in_exit ?_
   refine QJ_then ?_
   refine CJ_seq ?_
   refine CJ_seq ?_
   refine CJ_freezeRowK (n' := vis.length) (xs' := kCells vis) 1 rfl rfl rfl ?_
   show CJ _ _ _ _ (_ :: _ :: _ :: _) _
   refine CJ_reg ?_
   refine LJ_y rfl rfl (YJ_move rfl) ?_
   refine LJ_y rfl rfl (YJ_len rfl ulen_149 rfl) ?_
   refine LJ_y rfl rfl (YJ_move rfl) ?_
   refine LJ_nil ?_
   refine QJ_then ?_
   refine CJ_block ?_
   refine CJ_loopF (F := fun (i : Nat × BS) => ⟨[(1, .slice TA (((a : Int), (b : Int), (c : Int)) :: rest).length cT), (7, .pointer (some ⟨b2, 0, none⟩)), (10, .pointer (some ⟨b4, 0, none⟩)), (11, .func (.func 86) #[] #[.pointer (some ⟨b4, 0, none⟩), .pointer (some ⟨b2, 0, none⟩), .pointer (some ⟨b1, 0, none⟩)]), (80, .slice A0 vis.length c0), (81, .int .i64 vis.length), (82, .int .i64 (i.1 : Nat))], [mapR om fK fK i.2.L i.2.c, meshR Bm i.2.M], []⟩) (I := fun (i : Nat × BS) => i.1 ≤ vis.length ∧ i.2 = (vis.take i.1).foldl (stepG F) (buildR F pts a b c (((a : Int), (b : Int), (c : Int)) :: rest)) ∧ bOk pts.length i.2 ∧ i.2.M.tris.length ≤ 100010 + i.1) (m := fun (i : Nat × BS) => vis.length - i.1) (0, buildR F pts a b c (((a : Int), (b : Int), (c : Int)) :: rest)) (μr := [_]) ⟨Nat.zero_le _, rfl, hb, by dsimp only; omega⟩ (And.intro rfl (And.intro rfl (And.intro rfl (And.intro rfl (And.intro rfl (And.intro rfl (And.intro rfl (trivial)))))))) (permI [1, 1] rfl) (fun _ h => nomatch h) ?_
   rintro ⟨k, s⟩ ⟨hk, hs, hb, hl⟩
   try dsimp only at hk
   try dsimp only at hs
   try dsimp only at hb
   try dsimp only at hl
   show CJ _ _ _ [(1, .slice TA (((a : Int), (b : Int), (c : Int)) :: rest).length cT), (7, .pointer (some ⟨b2, 0, none⟩)), (10, .pointer (some ⟨b4, 0, none⟩)), (11, .func (.func 86) #[] #[.pointer (some ⟨b4, 0, none⟩), .pointer (some ⟨b2, 0, none⟩), .pointer (some ⟨b1, 0, none⟩)]), (80, .slice A0 vis.length c0), (81, .int .i64 vis.length), (82, .int .i64 (k : Nat))] (mapR om fK fK s.L s.c :: meshR Bm s.M :: _ :: _) _
   refine CJ_seq ?_
   refine CJ_reg ?_
   refine LJ_y rfl rfl (YJ_bin rfl rfl rfl) ?_
   refine LJ_nil ?_
   refine QJ_then ?_
   refine CJ_seq ?_
   refine CJ_cond rfl (fun h83 => ?_) (fun h83 => ?_)
   ·simp only [decide_eq_true_eq] at h83
    obtain ⟨e, he⟩ := get_at h83
    have hev := hperm.mem_iff.1 (List.mem_of_getElem? he)
    obtain ⟨he1, he0⟩ := hbR.key e hev
    obtain ⟨hn0, hn1, hm0, hm1, hmk⟩ := make_ok hb (e.1.2) (e.1.1) (-1)
    refine CJ_skip ?_
    refine QJ_then ?_
    refine CJ_seq ?_
    refine CJ_block ?_
    refine CJ_seq ?_
    refine CJ_reg ?_
    refine LJ_y rfl rfl (YJ_ixFact (n' := vis.length) rfl rfl elt_149 m0 (by decide) (by omega) (by omega) (by omega)) ?_
    refine LJ_y rfl rfl (YJ_loadFactN (vs := [.int .i64 e.1.1, .int .i64 e.1.2]) (xs := kCells vis) rfl tyi_46 m0 (k_row he) rfl) ?_
    refine LJ_alloc (cs := #[_, _]) rfl rfl zer_46 rfl ?_
    intro b7
    refine LJ_store (cs' := #[_, _]) (μ' := [_, _, _, _]) 0 rfl rfl rfl rfl tyi_46 rfl (Nat.le_of_ble_eq_true rfl) rfl rfl rfl ?_
    refine LJ_nil ?_
    refine QJ_then ?_
    refine CJ_seq ?_
    refine CJ_reg ?_
    refine LJ_y rfl rfl (YJ_ixArr rfl rfl arrt_46 (by omega) (by omega) rfl) ?_
    refine LJ_y rfl rfl (YJ_loadL rfl tyi_3 m0 rfl) ?_
    refine LJ_y rfl rfl (YJ_ixArr rfl rfl arrt_46 (by omega) (by omega) rfl) ?_
    refine LJ_y rfl rfl (YJ_loadL rfl tyi_3 m0 rfl) ?_
    refine LJ_y rfl rfl (YJ_build1 (cs := [_, _, _]) lay_34 rfl rfl rfl) ?_
    refine LJ_alloc (cs := #[_, _, _]) rfl rfl zer_34 rfl ?_
    intro b8
    refine LJ_store (cs' := #[_, _, _]) (μ' := [_, _, _, _, _]) 0 rfl rfl rfl rfl tyi_34 rfl (Nat.le_of_ble_eq_true rfl) rfl rfl rfl ?_
    refine LJ_nil ?_
    refine QJ_then ?_
    refine CJ_regD mix (by kernel_rfl) (fun _ _ _ _ _ h => h) (selR [0, 1, 4] _) _ (selR_sub _ _) (fun _ h => h) ?_
    refine AJ_y 0 rfl (by kernel_rfl) (by kernel_rfl) rfl rfl (YJ_move rfl) ?_
    refine AJ_y 1 rfl (by kernel_rfl) (by kernel_rfl) rfl rfl (YJ_loadFactP (A := some ⟨b2, 0, none⟩) (j := 0) rfl rfl tyi_28 m1 rfl) ?_
    refine AJ_y 2 rfl (by kernel_rfl) (by kernel_rfl) rfl rfl (YJ_ixArr rfl rfl arrt_34 (by omega) (by omega) rfl) ?_
    refine AJ_y 3 rfl (by kernel_rfl) (by kernel_rfl) rfl rfl (YJ_loadL rfl tyi_3 m0 rfl) ?_
    refine AJ_y 4 rfl (by kernel_rfl) (by kernel_rfl) rfl rfl (YJ_ixArr rfl rfl arrt_34 (by omega) (by omega) rfl) ?_
    refine AJ_y 5 rfl (by kernel_rfl) (by kernel_rfl) rfl rfl (YJ_loadL rfl tyi_3 m0 rfl) ?_
    refine AJ_y 6 rfl (by kernel_rfl) (by kernel_rfl) rfl rfl (YJ_ixArr rfl rfl arrt_34 (by omega) (by omega) rfl) ?_
    refine AJ_y 7 rfl (by kernel_rfl) (by kernel_rfl) rfl rfl (YJ_loadL rfl tyi_3 m0 rfl) ?_
    refine AJ_y 9 rfl (by kernel_rfl) (by kernel_rfl) rfl rfl (YJ_loadN (vs := [_, _, _]) rfl tyi_34 m0 rfl rfl) ?_
    refine AJ_call1 8 3 rfl (by kernel_rfl) rfl rfl rfl rfl rfl rfl (make_c (a := e.1.2) (b := e.1.1) (c := -1) (by omega) (by have := hb.fl; omega) hb.free (by rw [hb.ats]; omega) (by rw [hb.ats]; omega) (by rw [hb.ats]; omega) (by rw [hb.ats]; exact hp0)) (fun _ h => nomatch h) (AllIn.sub (And.intro m0 (And.intro m1 (And.intro m4 (trivial))))) ?_
    show AJ _ _ _ _ _ _ _ _ (_ :: _ :: _ :: _ :: _ :: _) _
    refine AJ_val (v := .int .i64 ((s.M.nextN.toNat : Nat) : Int)) (congrArg (Value.int .i64) (by omega)) ?_
    refine AJ_callP (μ1 := [_, _]) (μr := [_, _, _]) 10 rfl (by kernel_rfl) (permI [2, 2] rfl) rfl rfl rfl rfl rfl (join_c (bo := b4) (ro := om) (bm := b2) (B := Bm) (bf := b1) (rf := rf) (F := F) (cF := cF) (n := s.M.nextN.toNat) (s0 := ⟨s.M.make (e.1.2) (e.1.1) (-1), s.L, s.c⟩) (by dsimp only; omega) (by dsimp only; omega) hmk.op) (fun r hr => by simp only [joinFs, buildFs, List.mem_cons, List.not_mem_nil, or_false, List.append_assoc, List.cons_append, List.nil_append] at *; grind) (fun _ => AllIn.sub (And.intro m2 (And.intro m3 (And.intro m4 (trivial))))) ?_
    intro _ _
    show AJ _ _ _ _ _ _ _ _ (_ :: _ :: _ :: _ :: _ :: _) _
    refine AJ_done (by kernel_rfl) ?_
    refine QJ_in_normal ?_
    refine QJ_then ?_
    refine CJ_reg ?_
    refine LJ_y rfl rfl (YJ_bin rfl rfl (iop_add (by omega))) ?_
    refine LJ_y rfl rfl (YJ_move rfl) ?_
    refine LJ_nil ?_
    refine QJ_roundF (F := fun (i : Nat × BS) => ⟨[(1, .slice TA (((a : Int), (b : Int), (c : Int)) :: rest).length cT), (7, .pointer (some ⟨b2, 0, none⟩)), (10, .pointer (some ⟨b4, 0, none⟩)), (11, .func (.func 86) #[] #[.pointer (some ⟨b4, 0, none⟩), .pointer (some ⟨b2, 0, none⟩), .pointer (some ⟨b1, 0, none⟩)]), (80, .slice A0 vis.length c0), (81, .int .i64 vis.length), (82, .int .i64 (i.1 : Nat))], [mapR om fK fK i.2.L i.2.c, meshR Bm i.2.M], []⟩) (I := fun (i : Nat × BS) => i.1 ≤ vis.length ∧ i.2 = (vis.take i.1).foldl (stepG F) (buildR F pts a b c (((a : Int), (b : Int), (c : Int)) :: rest)) ∧ bOk pts.length i.2 ∧ i.2.M.tris.length ≤ 100010 + i.1) (m := fun (i : Nat × BS) => vis.length - i.1) (i := (k, s)) ((k + 1, stepG F s e)) (μd := [_, _]) ⟨by omega, by dsimp only; rw [take_step _ _ he, ← hs], (stepT_ok hb he0 he1 (by dsimp only; omega)).1, by have := (stepT_ok (F := F) (v := (e.1.2, e.1.1, -1)) hb he0 he1 (by dsimp only; omega)).2.1; dsimp only; unfold stepG; omega⟩ (by dsimp only; omega) (And.intro rfl (And.intro rfl (And.intro rfl (And.intro rfl (And.intro rfl (And.intro rfl (And.intro rfl (trivial)))))))) (permI [0, 0, 2] rfl) (fun _ h => nomatch h) (fun _ h => h)
   ·simp only [decide_eq_false_iff_not] at h83
    have hk9 : k = vis.length := by omega
    have hs9 : s = buildG F (buildR F pts a b c (((a : Int), (b : Int), (c : Int)) :: rest)) vis := by rw [hs, hk9, List.take_length]; rfl
    subst hs9
    refine CJ_exit ?_
    refine QJ_then_exit ?_
    refine QJ_then_exit ?_
    refine QJ_in_exit ?_
    refine QJ_then ?_
    refine CJ_seq ?_
    refine CJ_reg ?_
    refine LJ_y rfl rfl (YJ_loadFactP (A := some ⟨b2, 0, none⟩) (j := 0) rfl rfl tyi_28 m1 rfl) ?_
    refine LJ_y rfl rfl (YJ_assign rfl) ?_
    refine LJ_nil ?_
    refine QJ_then ?_
    refine CJ_ret ?_
    skip
    exact QJ_fin (.inl rfl) (μ' := [_]) (μr := _) (φ' := []) (res_tmp rfl rfl) (permI [1] rfl) (fun _ h => nomatch h) ⟨(Bm, vis), hperm, rfl, rfl, rfl⟩
  ·show LJ _ _ _ _ _ (_ :: _ :: _ :: _ :: _) _
   have hem := left_mem he72
   rw [hse] at hem
   have hvn2 : (vis.map (·.2.2) ++ [e72.2.2]).Nodup := by
    rw [List.nodup_append]
    refine ⟨hvn, by simp, ?_⟩
    intro x hx y hy
    rw [List.mem_singleton] at hy
    subst hy
    intro q
    subst q
    exact hem.2 hx
   refine LJ_y rfl rfl (YJ_extract rfl rfl) ?_
   refine LJ_nil ?_
   refine QJ_then ?_
   refine CJ_seq ?_
   refine CJ_condT rfl ?_
   refine CJ_skip ?_
   refine QJ_then ?_
   refine CJ_block ?_
   refine CJ_seq ?_
   refine CJ_reg ?_
   refine LJ_y rfl rfl (YJ_entry (f := fK) (g := fK) rfl m0 (MapAt_own (l := (buildR F pts a b c (((a : Int), (b : Int), (c : Int)) :: rest)).L) (c := (buildR F pts a b c (((a : Int), (b : Int), (c : Int)) :: rest)).c) m2) hem.1 hb.nod) ?_
   refine LJ_y rfl rfl (YJ_extract rfl rfl) ?_
   refine LJ_alloc (cs := #[_, _]) rfl rfl zer_46 rfl ?_
   intro b9
   refine LJ_store (cs' := #[_, _]) (μ' := [_, _, _, _, _]) 0 rfl rfl rfl rfl tyi_46 rfl (Nat.le_of_ble_eq_true rfl) rfl rfl rfl ?_
   refine LJ_nil ?_
   refine QJ_then ?_
   refine CJ_reg ?_
   refine LJ_y rfl rfl (YJ_move rfl) ?_
   refine LJ_y rfl rfl (YJ_loadN (vs := [_, _]) rfl tyi_46 m0 rfl rfl) ?_
   refine LJ_buildSliceN (vs := [_]) (cs := [_, _]) rfl rfl elt_149 zer_46 (by decide) (by decide) rfl rfl rfl rfl rfl ?_
   intro b10
   refine LJ_append 3 rfl rfl elt_149 zer_46 rfl rfl rfl rfl (Rd_own m0) rfl rfl (by omega) (by omega) (by decide) (k_app vis e72) ?_
   intro A79 c79
   show LJ _ _ _ _ _ (_ :: _ :: _ :: _ :: _ :: _ :: _) _
   refine LJ_y rfl rfl (YJ_assign rfl) ?_
   refine LJ_nil ?_
   refine QJ_in_normal ?_
   refine QJ_roundF (F := fun (i : MapO × List Nat × Nat × Option Addr × Nat) => ⟨[(1, .slice TA (((a : Int), (b : Int), (c : Int)) :: rest).length cT), (7, .pointer (some ⟨b2, 0, none⟩)), (10, .pointer (some ⟨b4, 0, none⟩)), (11, .func (.func 86) #[] #[.pointer (some ⟨b4, 0, none⟩), .pointer (some ⟨b2, 0, none⟩), .pointer (some ⟨b1, 0, none⟩)]), (14, .slice i.2.2.2.1 i.2.2.1 i.2.2.2.2), (71, .pointer (some ⟨it, 0, none⟩))], [itR it om (buildR F pts a b c (((a : Int), (b : Int), (c : Int)) :: rest)).c i.2.1 (buildR F pts a b c (((a : Int), (b : Int), (c : Int)) :: rest)).c, rowR 46 2 i.2.2.2.1 i.2.2.1 i.2.2.2.2 (kCells i.1)], []⟩) (I := fun (i : MapO × List Nat × Nat × Option Addr × Nat) => i.2.1 = i.1.map (·.2.2) ∧ i.2.2.1 = i.1.length ∧ (i.1.map (·.2.2)).Nodup ∧ (∀ e, e ∈ i.1 → e ∈ (buildR F pts a b c (((a : Int), (b : Int), (c : Int)) :: rest)).L) ∧ (leftL (buildR F pts a b c (((a : Int), (b : Int), (c : Int)) :: rest)).L i.2.1).length + i.1.length ≤ (buildR F pts a b c (((a : Int), (b : Int), (c : Int)) :: rest)).L.length) (m := fun (i : MapO × List Nat × Nat × Option Addr × Nat) => (leftL (buildR F pts a b c (((a : Int), (b : Int), (c : Int)) :: rest)).L i.2.1).length) (i := (vis, seen, nv, A0, c0)) ((vis ++ [e72], seen ++ [e72.2.2], nv + 1, A79, c79)) (μd := [_, _]) ⟨by dsimp only; rw [hse]; simp, by dsimp only; rw [hnv]; simp, by simpa using hvn2, fun e h => (List.mem_append.1 h).elim (hvs e) (fun q => by rw [List.mem_singleton] at q; subst q; exact hem.1), by have := left_lt he72; dsimp only; simp only [List.length_append, List.length_cons, List.length_nil]; omega⟩ (by dsimp only; exact left_lt he72) (And.intro rfl (And.intro rfl (And.intro rfl (And.intro rfl (And.intro rfl (And.intro rfl (trivial))))))) (permI [2, 2, 2, 2] rfl) (fun _ h => nomatch h) (fun _ h => h)
end Go.Proofs.Ytbanlhlggkdanaa
