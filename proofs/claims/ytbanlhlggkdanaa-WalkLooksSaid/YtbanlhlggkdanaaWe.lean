/- What the laws of walk need. Part 5: the texts of K4 J5 K5 H6 H7 K6 RowS RowT. -/
import Derived.Test.YtbanlhlggkdanaaWd
import Derived.Scope
import Derived.Laws.Pointers
import Derived.Laws.IdiomArrays
import Derived.OpenShut
import Derived.ProofKit
import Derived.Lib.SmallJoins
import Derived.Below
import Derived.ChangeSame
set_option linter.unusedSimpArgs false
set_option linter.unusedVariables false
namespace Go.Proofs.Ytbanlhlggkdanaa
open Go.RowKit
abbrev Tr.vv (t : Tr) : Int × Int × Int := (t.v0, t.v1, t.v2)
theorem real_rv (t : Tr) : t.real ↔ rv t.vv := Iff.rfl
theorem vw_some {l : List Tr} {q : Nat} {t : Tr} (h : l[q]? = some t) : vw l q = some t.vv := by unfold vw; rw [h]; rfl
theorem vw_get {l : List Tr} {q : Nat} {v : Int × Int × Int} (h : vw l q = some v) : ∃ t, l[q]? = some t ∧ t.vv = v := by
 unfold vw at h
 cases hq : l[q]? with
 | none => rw [hq] at h; cases h
 | some t => rw [hq] at h; exact ⟨t, rfl, Option.some.inj h⟩
theorem nb_get {l : List Tr} {q k : Nat} {x : Int} (h : nb l q k = some x) : ∃ t, l[q]? = some t ∧ t.n k = x := by
 unfold nb at h
 cases hq : l[q]? with
 | none => rw [hq] at h; cases h
 | some t => rw [hq] at h; exact ⟨t, rfl, Option.some.inj h⟩
theorem vw_cons (t : Tr) (l : List Tr) (q : Nat) : vw (t :: l) (q + 1) = vw l q := rfl
def ptv2 (x : Nat × Tr) : Nat × Tr := (x.1, trv x.2)
theorem realsF_nil : ∀ {l : List Tr} {k : Nat}, (∀ q v, rv v → ¬ vw l q = some v) → realsF k l = []
 | [], _, _ => rfl
 | t :: l, k, h => by
  rw [realsF, if_neg (show ¬ t.real from fun q => h 0 t.vv q rfl)]
  exact realsF_nil (fun q v hv hq => h (q + 1) v hv hq)
theorem rvs_congr : ∀ {a b : List Tr} {k : Nat}, (∀ q v, rv v → (vw a q = some v ↔ vw b q = some v)) → (realsF k a).map ptv2 = (realsF k b).map ptv2
 | [], b, k, h => by
  rw [realsF_nil (l := b) (fun q v hv hq => by have := (h q v hv).2 hq; cases this)]; rfl
 | x :: a, [], k, h => by
  rw [realsF_nil (l := x :: a) (fun q v hv hq => by have := (h q v hv).1 hq; cases this)]; rfl
 | x :: a, y :: b, k, h => by
  have ih := rvs_congr (a := a) (b := b) (k := k + 1) (fun q v hv => h (q + 1) v hv)
  rw [realsF, realsF]
  by_cases hx : x.real
  ·have h1 := (h 0 x.vv hx).1 rfl
   have h2 : y.vv = x.vv := Option.some.inj h1
   have hy : y.real := by rw [real_rv, h2]; exact hx
   rw [if_pos hx, if_pos hy, List.map_cons, List.map_cons, ih]
   have e : trv x = trv y := by
    obtain ⟨q1, q2⟩ := Prod.mk.inj h2
    obtain ⟨q2, q3⟩ := Prod.mk.inj q2
    unfold trv
    rw [q1, q2, q3]
   unfold ptv2
   dsimp only
   rw [e]
  ·have hy : ¬ y.real := fun hy => by
    have h1 := (h 0 y.vv hy).2 rfl
    have h2 : x.vv = y.vv := Option.some.inj h1
    exact hx (by rw [real_rv, h2]; exact hy)
   rw [if_neg hx, if_neg hy, ih]
structure GL (pts : List (Int × Int)) (tris : List Tr) (X Y : Nat) (R : List (Nat × Tr)) : Prop where
 box : boxB pts R X Y = true
 rvs : rvs tris = R
 len : tris.length ≤ 300
 tri : ∀ r, r ∈ R → r.2.ok pts.length ∧ 0 < A2 (ptAt pts r.2.v0).1 (ptAt pts r.2.v0).2 (ptAt pts r.2.v1).1 (ptAt pts r.2.v1).2 (ptAt pts r.2.v2).1 (ptAt pts r.2.v2).2 ∧ inB X Y (ptAt pts r.2.v0) = true ∧ inB X Y (ptAt pts r.2.v1) = true ∧ inB X Y (ptAt pts r.2.v2) = true
 out : ∀ (q : Nat) (t : Tr) (k : Nat), tris[q]? = some t → t.real → k < 3 → isReal tris (t.n k) ∨ (0 ≤ t.n k ∧ sideB pts X Y (kv t.vv k) ≠ 0 ∧ ∃ g : Tr, tris[(t.n k).toNat]? = some g ∧ g.vv = ((kv t.vv k).2, (kv t.vv k).1, -1))
 side : ∀ j, j ∈ [1, 2, 3, 4] → ∃ (q : Nat) (t : Tr) (k : Nat), k < 3 ∧ tris[q]? = some t ∧ t.real ∧ ¬ isReal tris (t.n k) ∧ sideB pts X Y (kv t.vv k) = j
 gh : ∀ (q : Nat) (g : Tr), tris[q]? = some g → ¬ g.real → ∃ (i : Nat) (t : Tr) (k : Nat), k < 3 ∧ tris[i]? = some t ∧ t.real ∧ t.n k = ((q : Nat) : Int) ∧ g.vv = ((kv t.vv k).2, (kv t.vv k).1, -1)
theorem joinE_free {F : MapI} {n : Nat} {v0 v1 v2 : Int} {s : BS} {i : Nat} : (joinE F n v0 v1 v2 s i).M.free = s.M.free ∧ (joinE F n v0 v1 v2 s i).M.tris.length = s.M.tris.length := by
 unfold joinE
 split
 ·exact ⟨rfl, link_len ..⟩
 ·exact ⟨rfl, rfl⟩
theorem make_le (M : MD) (a b c : Int) : (M.make a b c).tris.length ≤ M.tris.length + 1 := by
 unfold MD.make
 dsimp only
 split <;> simp
theorem foldG_free {F : MapI} : ∀ (r : MapO) {s : BS}, (r.foldl (stepG F) s).M.free.length = s.M.free.length - r.length ∧ (r.foldl (stepG F) s).M.tris.length ≤ s.M.tris.length + r.length
 | [], s => ⟨rfl, Nat.le_refl _⟩
 | e :: r, s => by
  obtain ⟨h1, h2⟩ := foldG_free (F := F) r (s := stepG F s e)
  have h3 : (stepG F s e).M.free = s.M.free.dropLast := by
   show (joinE F _ _ _ _ (joinE F _ _ _ _ (joinE F _ _ _ _ _ 0) 1) 2).M.free = _
   rw [joinE_free.1, joinE_free.1, joinE_free.1]; rfl
  have h4 : (stepG F s e).M.tris.length ≤ s.M.tris.length + 1 := by
   show (joinE F _ _ _ _ (joinE F _ _ _ _ (joinE F _ _ _ _ _ 0) 1) 2).M.tris.length ≤ _
   rw [joinE_free.2, joinE_free.2, joinE_free.2]; exact make_le ..
  rw [List.foldl_cons, List.length_cons, h1, h3, List.length_dropLast]
  omega
theorem isReal_vw {l : List Tr} {x : Int} : isReal l x ↔ 0 ≤ x ∧ ∃ v, vw l x.toNat = some v ∧ rv v := by
 unfold isReal
 constructor
 ·rintro ⟨h, t, h1, h2⟩; exact ⟨h, t.vv, vw_some h1, h2⟩
 ·rintro ⟨h, v, h1, h2⟩
  obtain ⟨t, h3, rfl⟩ := vw_get h1
  exact ⟨h, t, h3, h2⟩
theorem rvs_mem {l : List Tr} {q : Nat} {t : Tr} (h : l[q]? = some t) (hr : t.real) : (q, trv t) ∈ rvs l := List.mem_map.2 ⟨(q, t), reals_mem.2 ⟨h, hr⟩, rfl⟩
theorem buildG_law {T : BS} {X Y : Nat} {border : MapO} (h : lawB T.M T.L X Y = true) (hp : border.Perm T.L) : (buildG [] T border).M.pts = T.M.pts ∧ GL T.M.pts (buildG [] T border).M.tris X Y (rvs T.M.tris) := by
 unfold lawB at h
 simp only [Bool.and_eq_true, List.all_eq_true, decide_eq_true_eq, Bool.or_eq_true] at h
 obtain ⟨h1, h2, h3, h4, h5, h6, h7, h8⟩ := h
 have hB := gbB_ok h1
 have hI : GI T.M T.L border (buildG [] T border) := by
  have := GI.all (F := []) hB border [] T (GI.start (c := T.c) hB) (fun e he => hp.mem_iff.1 he) (by
   rw [List.nil_append]
   exact ((hp.map _).nodup_iff).2 hB.kn)
  rw [List.nil_append] at this
  exact this
 have hkeys : ∀ x, x ∈ border.map (·.1) ↔ x ∈ T.L.map (·.1) := fun x => (hp.map _).mem_iff
 obtain ⟨f1, f2⟩ : (buildG [] T border).M.free.length = T.M.free.length - border.length ∧ (buildG [] T border).M.tris.length ≤ T.M.tris.length + border.length := foldG_free (F := []) border (s := T)
 have hfree : (buildG [] T border).M.free = [] := by
  apply List.eq_nil_of_length_eq_zero
  rw [f1, hp.length_eq]; omega
 generalize buildG [] T border = S at *
 have hrvs : rvs S.M.tris = rvs T.M.tris := rvs_congr (fun q v hv => hI.rl q v hv)
 have hreal : ∀ x, isReal S.M.tris x ↔ isReal T.M.tris x := fun x => by
  rw [isReal_vw, isReal_vw]
  constructor
  ·rintro ⟨a, v, b, c⟩; exact ⟨a, v, (hI.rl _ v c).1 b, c⟩
  ·rintro ⟨a, v, b, c⟩; exact ⟨a, v, (hI.rl _ v c).2 b, c⟩
 have hs6 : ∀ e, e ∈ T.L.map (·.1) → sideB T.M.pts X Y e ≠ 0 := fun e he => by
  obtain ⟨e', he', rfl⟩ := List.mem_map.1 he
  exact h6 e' he'
 refine ⟨hI.pts, h8, hrvs, ?_, fun r hr => ?_, fun q t k hq ht hk => ?_, fun j hj => ?_, fun q g hq hg => ?_⟩
 ·have : S.M.tris.length ≤ T.M.tris.length + border.length := f2
  rw [hp.length_eq] at this
  omega
 ·have := (h5 r hr).1
  exact ⟨this.1, this.2.1, this.2.2.1, this.2.2.2.1, this.2.2.2.2⟩
 ·have hT := (hI.rl q t.vv ht).1 (vw_some hq)
  have hm : (q, trv t) ∈ rvs T.M.tris := by rw [← hrvs]; exact rvs_mem hq ht
  obtain ⟨n1, n2⟩ := hI.nr q t.vv k hT ht hk
  by_cases hkk : kv t.vv k ∈ border.map (·.1)
  ·obtain ⟨u, u1, u2, _⟩ := n2 hkk
   obtain ⟨t', g1, g2⟩ := nb_get u1
   rw [hq] at g1
   cases g1
   obtain ⟨g, g3, g4⟩ := vw_get u2
   refine .inr ⟨by omega, hs6 _ ((hkeys _).1 hkk), g, ?_, g4⟩
   rw [g2, Int.toNat_natCast]; exact g3
  ·refine .inl ?_
   have e1 := n1 hkk
   rcases (h5 _ hm).2 k (in3 hk) with q1 | q1
   ·exact absurd ((hkeys _).2 q1) hkk
   ·obtain ⟨x, x1, x2⟩ := optAny_of q1
    simp only [Bool.and_eq_true, decide_eq_true_eq] at x2
    obtain ⟨x2, x3⟩ := x2
    obtain ⟨v, v1, v2⟩ := optAny_of x3
    dsimp only at x1
    rw [← e1] at x1
    obtain ⟨t', g1, g2⟩ := nb_get x1
    rw [hq] at g1
    cases g1
    rw [hreal, isReal_vw, g2]
    exact ⟨x2, v, v1, of_decide_eq_true v2⟩
 ·obtain ⟨e, e1, e2⟩ := List.any_eq_true.1 (h7 j hj)
  have e2 := of_decide_eq_true e2
  obtain ⟨_, _, d1, d2, d3, v, v1, v2, v3⟩ := hB.ed e e1
  obtain ⟨t, t1, rfl⟩ := vw_get ((hI.rl _ v v2).2 v1)
  refine ⟨e.2.1.1.toNat, t, e.2.1.2.toNat, by omega, t1, v2, ?_, by rw [v3]; exact e2⟩
  have hk : kv t.vv e.2.1.2.toNat ∈ border.map (·.1) := by rw [v3]; exact (hkeys _).2 (List.mem_map.2 ⟨e, e1, rfl⟩)
  obtain ⟨u, u1, u2, _⟩ := (hI.nr _ t.vv _ v1 v2 (by omega)).2 hk
  obtain ⟨t', g1, g2⟩ := nb_get u1
  rw [t1] at g1
  cases g1
  rw [g2, isReal_vw]
  rintro ⟨_, w, w1, w2⟩
  rw [Int.toNat_natCast, u2] at w1
  cases w1
  exact absurd (show (0 : Int) ≤ -1 from w2.2.2) (by decide)
 ·rcases hI.gh q g.vv (vw_some hq) hg with q1 | ⟨e, e1, e2, e3⟩
  ·rw [hfree] at q1; cases q1
  ·have he := hI.sub e e1
   obtain ⟨_, _, d1, d2, d3, v, v1, v2, v3⟩ := hB.ed e he
   obtain ⟨t, t1, rfl⟩ := vw_get ((hI.rl _ v v2).2 v1)
   obtain ⟨t', g1, g2⟩ := nb_get e3
   rw [t1] at g1
   cases g1
   exact ⟨_, t, _, by omega, t1, v2, g2, by rw [v3]; exact e2⟩
theorem gridR_pts {W H : Nat} {f : Nat → Bool} (F : MapI) : (gridR F W H f).M.pts = gPts W H := by
 unfold gridR buildR
 have step : ∀ (s : BS) v, (stepT F s v).M.pts = s.M.pts := fun s v => by
  have je : ∀ (n : Nat) (v0 v1 v2 : Int) (s : BS) (i : Nat), (joinE F n v0 v1 v2 s i).M.pts = s.M.pts := fun n v0 v1 v2 s i => by
   unfold joinE
   split <;> rfl
  show (joinE F _ _ _ _ (joinE F _ _ _ _ (joinE F _ _ _ _ _ 0) 1) 2).M.pts = _
  rw [je, je, je]; rfl
 have fold : ∀ (l : List (Int × Int × Int)) (s : BS), (l.foldl (stepT F) s).M.pts = s.M.pts := fun l => by
  induction l with
  | nil => exact fun _ => rfl
  | cons v l ih => exact fun s => by rw [List.foldl_cons, ih, step]
 rw [fold]
 rfl
theorem grid_law {W H : Nat} {f : Nat → Bool} {border : MapO} (hW : W = 1 ∨ W = 2) (hH : H = 1 ∨ H = 2) (hp : border.Perm (gridR [] W H f).L) :
  (buildG [] (gridR [] W H f) border).M.pts = gPts W H ∧ GL (gPts W H) (buildG [] (gridR [] W H f) border).M.tris (2 * W) (2 * H) (rvs (gridR [] W H f).M.tris) := by
 have h := buildG_law (X := 2 * W) (Y := 2 * H) (gridR_law f hW hH) hp
 rw [gridR_pts] at h
 exact h
end Go.Proofs.Ytbanlhlggkdanaa
namespace Go.Proofs.Ytbanlhlggkdanaa
open Go.RowKit
theorem ent_25 : Enter Try.prog 25 = true := by kernel_rfl
section
variable {E : Env} {Q : Exit → Act → World → Prop} {σ : List (Nat × Value)} {μ φ : List Res}
theorem CJ_scope {c : Code} (h : CJ E (Exit.noGoto Q) c σ μ φ) : CJ E Q (.scope c) σ μ φ := fun a w ha hm => wp_scope_straight (h a w ha hm)
theorem QJ_in_scopeN (h : QJ E Q .normal σ μ φ) : QJ E (Exit.noGoto Q) .normal σ μ φ := fun a w ha hm => h a w ha hm
theorem QJ_in_scopeR (h : QJ E Q .ret σ μ φ) : QJ E (Exit.noGoto Q) .ret σ μ φ := fun a w ha hm => h a w ha hm
theorem QJ_in_scopeX {i : Nat} (h : QJ E Q (.exit i) σ μ φ) : QJ E (Exit.noGoto Q) (.exit i) σ μ φ := fun a w ha hm => h a w ha hm
end
structure FindOk (pts : List (Int × Int)) (tris : List Tr) (p : Int × Int) (budget : Int) (x : Pl) (n : Int) : Prop where
 lo : 0 ≤ n
 hi : n ≤ max budget 0
 any : x = look pts tris p ∨ 0 < n ∧ ((∃ (i : Int) (t : Tr), 0 ≤ i ∧ tris[i.toNat]? = some t ∧ t.real ∧ hld pts t p ∧ x = place pts t i p) ∨ (∃ (i : Int) (t : Tr) (k : Nat), 0 ≤ i ∧ k < 3 ∧ tris[i.toNat]? = some t ∧ t.real ∧ bey pts t k p ∧ ¬ isReal tris (t.n k) ∧ x = (3, t.n k, 0, 0)))
theorem first_real (tris : List Tr) : firstI tris = -1 ∨ isReal tris (firstI tris) := by
 unfold firstI
 rcases h : reals tris with _ | ⟨⟨i, t⟩, r⟩
 ·exact .inl rfl
 ·have := reals_mem.1 (show (i, t) ∈ reals tris by rw [h]; exact .head _)
  exact .inr ⟨Int.natCast_nonneg i, t, by simpa using this.1, this.2⟩
set_option maxRecDepth 100000 in
set_option maxHeartbeats 8000000 in
theorem find_c {B : Nat} {h : Mh} {pts : List (Int × Int)} {tris : List Tr} {p1 p2 fr bu : Int} (hP : ∀ j, j < pts.length → P2 (pts.getD j (0, 0)).1 (pts.getD j (0, 0)).2) (hT : okTris pts tris) (hlen : tris.length ≤ 1073741824) (hp : P2 p1 p2) (hbu : bu ≤ 9223372036854775807) : Tri Try.prog 25 [.pointer (some ⟨B, 0, none⟩), ptv p1 p2, .int .i64 fr, .int .i64 bu] [] (meshFs B h pts tris) (RetX (fun (x : Pl × Int) => FindOk pts tris (p1, p2) bu x.1 x.2) (fun x => .tuple #[plV x.1, .int .i64 x.2]) (fun _ => []) (fun _ => [])) := by
 refine Tri_of (N := 68) Try.func25 rfl ent_25 rfl rfl ?_
 intro w0 S0 T0
 show CJ _ _ _ [(0, _), (1, _), (2, _), (3, _)] _ _
 refine CJ_seq ?_
 refine CJ_reg ?_
 refine LJ_box (cs := #[_, _]) rfl rfl rfl rfl ?_
 intro b1
 refine LJ_alloc (cs := #[_, _, _, _]) rfl rfl zer_42 rfl ?_
 intro b2
 refine LJ_y rfl rfl (YJ_assign rfl) ?_
 refine LJ_nil ?_
 refine QJ_then ?_
 refine CJ_scope ?_
 refine CJ_seq ?_
 refine CJ_reg ?_
 refine LJ_y rfl rfl (YJ_move rfl) ?_
 refine LJ_y rfl rfl (YJ_assign rfl) ?_
 refine LJ_nil ?_
 refine QJ_then ?_
 refine CJ_seq ?_
 refine CJ_seq ?_
 refine CJ_reg ?_
 refine LJ_y rfl rfl (YJ_move rfl) ?_
 refine LJ_y rfl rfl (YJ_move rfl) ?_
 refine LJ_call0 rfl rfl rfl rfl rfl (real_c (h := h) (pts := pts) (tris := tris)) (fun r h => h) ?_
 refine LJ_y rfl rfl (YJ_not rfl) ?_
 refine LJ_nil ?_
 refine QJ_then ?_
 refine CJ_cond rfl (fun h19 => ?_) (fun h19 => ?_)
 ·simp only [decide_eq_false_iff_not, Bool.not_eq_true'] at h19
  refine CJ_reg ?_
  refine LJ_y rfl rfl (YJ_move rfl) ?_
  refine LJ_call0 rfl rfl rfl rfl rfl (first_c (h := h) (pts := pts) (tris := tris) hlen) (fun r h => h) ?_
  refine LJ_y rfl rfl (YJ_assign rfl) ?_
  refine LJ_nil ?_
  refine QJ_then ?_
  refine CJ_seq ?_
  refine CJ_reg ?_
  refine LJ_y rfl rfl (YJ_assign rfl) ?_
  refine LJ_nil ?_
  refine QJ_then ?_
  refine CJ_seq ?_
  refine CJ_label ?_
  refine QJ_then ?_
  refine CJ_seq ?_
  refine CJ_block ?_
  refine CJ_loopF (F := fun (i : Int × Nat) => ⟨[(0, .pointer (some ⟨B, 0, none⟩)), (3, .int .i64 bu), (5, .pointer (some ⟨b1, 0, none⟩)), (8, .pointer (some ⟨b2, 0, none⟩)), (10, .int .i64 i.1), (11, .int .i64 (i.2 : Nat))], [cellsR b2 #[.int .i64 0, .int .i64 0, .int .i64 0, .int .i64 0] 42, cellsR b1 #[.int .i64 p1, .int .i64 p2] 23], []⟩) (I := fun (i : Int × Nat) => (i.1 = -1 ∨ isReal tris i.1) ∧ (i.2 : Int) ≤ max bu 0) (m := fun (i : Int × Nat) => (bu - i.2).toNat) (firstI tris, 0) (μr := []) ⟨first_real tris, by dsimp only; omega⟩ (And.intro rfl (And.intro rfl (And.intro rfl (And.intro rfl (And.intro rfl (And.intro rfl (trivial))))))) (permI [] rfl) (fun _ h => nomatch h) ?_
  rintro ⟨t, n⟩ ⟨ht, hn⟩
  try dsimp only at ht
  try dsimp only at hn
  show CJ _ _ _ [(0, .pointer (some ⟨B, 0, none⟩)), (3, .int .i64 bu), (5, .pointer (some ⟨b1, 0, none⟩)), (8, .pointer (some ⟨b2, 0, none⟩)), (10, .int .i64 t), (11, .int .i64 (n : Nat))] (cellsR b2 #[.int .i64 0, .int .i64 0, .int .i64 0, .int .i64 0] 42 :: cellsR b1 #[.int .i64 p1, .int .i64 p2] 23 :: _) _
  refine CJ_seq ?_
  refine CJ_seq ?_
  refine CJ_reg ?_
  refine LJ_y rfl rfl (YJ_move rfl) ?_
  refine LJ_y rfl rfl (YJ_bin rfl rfl rfl) ?_
  refine LJ_y rfl rfl (YJ_move rfl) ?_
  refine LJ_boolC (fun h24 => ?_) (fun h24 => ?_)
  ·simp only [decide_eq_true_eq] at h24
   refine LJ_y rfl rfl (YJ_move rfl) ?_
   refine LJ_y rfl rfl (YJ_move rfl) ?_
   refine LJ_y rfl rfl (YJ_bin rfl rfl rfl) ?_
   refine LJ_y rfl rfl (YJ_pickT rfl rfl) ?_
   refine LJ_nil ?_
   refine QJ_then ?_
   refine CJ_cond rfl (fun h28 => ?_) (fun h28 => ?_)
   ·simp only [decide_eq_true_eq] at h28
    obtain ⟨ht0, x, hti, htr⟩ := ht.resolve_left (by omega)
    have hto := hT x (List.mem_of_getElem? hti) htr
    have hnl := (List.getElem?_eq_some_iff.1 hti).1
    refine CJ_skip ?_
    refine QJ_then ?_
    refine CJ_block ?_
    refine CJ_seq ?_
    refine CJ_reg ?_
    refine LJ_y rfl rfl (YJ_move rfl) ?_
    refine LJ_y rfl rfl (YJ_bin rfl rfl (iop_add (by omega))) ?_
    refine LJ_y rfl rfl (YJ_assign rfl) ?_
    refine LJ_nil ?_
    refine QJ_then ?_
    refine CJ_seq ?_
    refine CJ_reg ?_
    refine LJ_y rfl rfl (YJ_move rfl) ?_
    refine LJ_y rfl rfl (YJ_nilCheck rfl) ?_
    refine LJ_y rfl rfl (YJ_fieldOwn rfl fld_57_1 rfl) ?_
    refine LJ_y rfl rfl (YJ_loadFactP (A := some ⟨B, 0, none⟩) (j := 1) rfl rfl tyi_54 m0 rfl) ?_
    refine LJ_y rfl rfl (YJ_move rfl) ?_
    refine LJ_y rfl rfl (YJ_ixFact rfl rfl elt_54 m2 (by decide) (by omega) (by omega) (by omega)) ?_
    refine LJ_y rfl rfl (YJ_loadFactN (vs := [.int .i64 x.v0, .int .i64 x.v1, .int .i64 x.v2, .int .i64 x.n0, .int .i64 x.n1, .int .i64 x.n2, .bool x.f0, .bool x.f1, .bool x.f2]) (xs := trCells tris) rfl tyi_37 m2 (trCells_row hti) rfl) ?_
    refine LJ_alloc (cs := #[_, _, _, _, _, _, _, _, _]) rfl rfl zer_37 rfl ?_
    intro b3
    refine LJ_store (cs' := #[_, _, _, _, _, _, _, _, _]) (μ' := [_, _, _]) 0 rfl rfl rfl rfl tyi_37 rfl (Nat.le_of_ble_eq_true rfl) rfl (wr_all rfl) rfl ?_
    refine LJ_nil ?_
    refine QJ_then ?_
    refine CJ_seq ?_
    refine CJ_seq ?_
    refine CJ_reg ?_
    refine LJ_y rfl rfl (YJ_fieldOwn rfl fld_37_1 rfl) ?_
    refine LJ_y rfl rfl (YJ_loadN (vs := [_, _, _]) rfl tyi_34 m0 rfl rfl) ?_
    refine LJ_y rfl rfl (YJ_move rfl) ?_
    refine LJ_nil ?_
    refine QJ_then ?_
    refine CJ_block ?_
    refine CJ_loopF (F := fun (i : Nat) => ⟨[(0, .pointer (some ⟨B, 0, none⟩)), (3, .int .i64 bu), (5, .pointer (some ⟨b1, 0, none⟩)), (8, .pointer (some ⟨b2, 0, none⟩)), (10, .int .i64 t), (11, .int .i64 ((n : Int) + 1)), (12, .pointer (some ⟨b3, 0, none⟩)), (39, .agg #[.int .i64 x.n0, .int .i64 x.n1, .int .i64 x.n2]), (40, .int .i64 (i : Nat))], [cellsR b3 #[.int .i64 x.v0, .int .i64 x.v1, .int .i64 x.v2, .int .i64 x.n0, .int .i64 x.n1, .int .i64 x.n2, .bool x.f0, .bool x.f1, .bool x.f2] 37, cellsR b2 #[.int .i64 0, .int .i64 0, .int .i64 0, .int .i64 0] 42, cellsR b1 #[.int .i64 p1, .int .i64 p2] 23], []⟩) (I := fun (i : Nat) => i ≤ 3 ∧ ∀ j, j < i → ¬ bey pts x j (p1, p2)) (m := fun (i : Nat) => 3 - i) 0 (μr := []) ⟨Nat.zero_le _, fun _ h => absurd h (Nat.not_lt_zero _)⟩ (And.intro rfl (And.intro rfl (And.intro rfl (And.intro rfl (And.intro rfl (And.intro rfl (And.intro rfl (And.intro rfl (And.intro rfl (trivial)))))))))) (permI [] rfl) (fun _ h => nomatch h) ?_
    rintro k ⟨hk, hno⟩
    try dsimp only at hk
    try dsimp only at hno
    show CJ _ _ _ [(0, .pointer (some ⟨B, 0, none⟩)), (3, .int .i64 bu), (5, .pointer (some ⟨b1, 0, none⟩)), (8, .pointer (some ⟨b2, 0, none⟩)), (10, .int .i64 t), (11, .int .i64 ((n : Int) + 1)), (12, .pointer (some ⟨b3, 0, none⟩)), (39, .agg #[.int .i64 x.n0, .int .i64 x.n1, .int .i64 x.n2]), (40, .int .i64 (k : Nat))] (cellsR b3 #[.int .i64 x.v0, .int .i64 x.v1, .int .i64 x.v2, .int .i64 x.n0, .int .i64 x.n1, .int .i64 x.n2, .bool x.f0, .bool x.f1, .bool x.f2] 37 :: cellsR b2 #[.int .i64 0, .int .i64 0, .int .i64 0, .int .i64 0] 42 :: cellsR b1 #[.int .i64 p1, .int .i64 p2] 23 :: _) _
    refine CJ_seq ?_
    refine CJ_reg ?_
    refine LJ_y rfl rfl (YJ_bin rfl rfl rfl) ?_
    refine LJ_nil ?_
    refine QJ_then ?_
    refine CJ_seq ?_
    refine CJ_cond rfl (fun h41 => ?_) (fun h41 => ?_)
    ·simp only [decide_eq_true_eq] at h41
     have hk3 : k < 3 := by omega
     refine CJ_skip ?_
     refine QJ_then ?_
     refine CJ_seq ?_
     refine CJ_block ?_
     refine CJ_seq ?_
     refine CJ_reg ?_
     refine LJ_y rfl rfl (YJ_move rfl) ?_
     refine LJ_y rfl rfl (YJ_index1 rfl rfl arrt_34 tyi_3 (by omega) (by omega) (n_get hk3)) ?_
     refine LJ_y rfl rfl (YJ_assign rfl) ?_
     refine LJ_y rfl rfl (YJ_assign rfl) ?_
     refine LJ_nil ?_
     refine QJ_then ?_
     refine CJ_seq ?_
     refine CJ_seq ?_
     refine CJ_reg ?_
     refine LJ_y rfl rfl (YJ_move rfl) ?_
     refine LJ_y rfl rfl (YJ_loadN (vs := [_, _, _, _, _, _, _, _, _]) rfl tyi_37 m0 rfl rfl) ?_
     refine LJ_y rfl rfl (YJ_move rfl) ?_
     refine LJ_y rfl rfl (YJ_loadN (vs := [_, _]) rfl tyi_23 m2 rfl rfl) ?_
     refine LJ_call0 rfl rfl rfl rfl rfl (beyond_c (k := k) (h := h) (tris := tris) hk3 hP hto hp) (fun r h => h) ?_
     refine LJ_y rfl rfl (YJ_not rfl) ?_
     refine LJ_nil ?_
     refine QJ_then ?_
     refine CJ_cond rfl (fun h49 => ?_) (fun h49 => ?_)
     ·simp only [decide_eq_false_iff_not, Bool.not_eq_true'] at h49
      refine CJ_exit ?_
      refine QJ_then_exit ?_
      refine QJ_in_exit ?_
      refine QJ_then ?_
      refine CJ_reg ?_
      refine LJ_y rfl rfl (YJ_bin rfl rfl (iop_add (by omega))) ?_
      refine LJ_y rfl rfl (YJ_move rfl) ?_
      refine LJ_nil ?_
      refine QJ_roundF (F := fun (i : Nat) => ⟨[(0, .pointer (some ⟨B, 0, none⟩)), (3, .int .i64 bu), (5, .pointer (some ⟨b1, 0, none⟩)), (8, .pointer (some ⟨b2, 0, none⟩)), (10, .int .i64 t), (11, .int .i64 ((n : Int) + 1)), (12, .pointer (some ⟨b3, 0, none⟩)), (39, .agg #[.int .i64 x.n0, .int .i64 x.n1, .int .i64 x.n2]), (40, .int .i64 (i : Nat))], [cellsR b3 #[.int .i64 x.v0, .int .i64 x.v1, .int .i64 x.v2, .int .i64 x.n0, .int .i64 x.n1, .int .i64 x.n2, .bool x.f0, .bool x.f1, .bool x.f2] 37, cellsR b2 #[.int .i64 0, .int .i64 0, .int .i64 0, .int .i64 0] 42, cellsR b1 #[.int .i64 p1, .int .i64 p2] 23], []⟩) (I := fun (i : Nat) => i ≤ 3 ∧ ∀ j, j < i → ¬ bey pts x j (p1, p2)) (m := fun (i : Nat) => 3 - i) (i := k) (k + 1) (μd := []) ⟨by omega, fun j hj => (Nat.lt_succ_iff_lt_or_eq.1 hj).elim (hno j) (fun q => by rw [q]; exact h49)⟩ (by omega) (And.intro rfl (And.intro rfl (And.intro rfl (And.intro rfl (And.intro rfl (And.intro rfl (And.intro rfl (And.intro rfl (And.intro rfl (trivial)))))))))) (permI [] rfl) (fun _ h => nomatch h) (fun _ h => h)
     ·simp only [decide_eq_true_eq, Bool.not_eq_false'] at h49
      refine CJ_skip ?_
      refine QJ_then ?_
      refine CJ_seq ?_
      refine CJ_seq ?_
      refine CJ_reg ?_
      refine LJ_y rfl rfl (YJ_move rfl) ?_
      refine LJ_y rfl rfl (YJ_move rfl) ?_
      refine LJ_call0 rfl rfl rfl rfl rfl (real_c (h := h) (pts := pts) (tris := tris)) (fun r h => h) ?_
      refine LJ_y rfl rfl (YJ_not rfl) ?_
      refine LJ_nil ?_
      refine QJ_then ?_
      refine CJ_cond rfl (fun h53 => ?_) (fun h53 => ?_)
      ·simp only [decide_eq_false_iff_not, Bool.not_eq_true'] at h53
       refine CJ_seq ?_
       refine CJ_reg ?_
       refine LJ_y rfl rfl (YJ_move rfl) ?_
       refine LJ_y rfl rfl (YJ_build1 (cs := [_, _, _, _]) lay_42 rfl rfl rfl) ?_
       refine LJ_y rfl rfl (YJ_move rfl) ?_
       refine LJ_store (cs' := #[_, _, _, _]) (μ' := [_, _, _]) 1 rfl rfl rfl rfl tyi_42 rfl (Nat.le_of_ble_eq_true rfl) rfl rfl rfl ?_
       refine LJ_y rfl rfl (YJ_assign rfl) ?_
       refine LJ_nil ?_
       refine QJ_then ?_
       refine CJ_ret ?_
       refine QJ_then_ret ?_
       refine QJ_in_ret ?_
       refine QJ_then_ret ?_
       refine QJ_then_ret ?_
       refine QJ_in_ret ?_
       refine QJ_then_ret ?_
       refine QJ_in_ret ?_
       refine QJ_then_ret ?_
       refine QJ_in_ret ?_
       refine QJ_then_ret ?_
       refine QJ_in_scopeR ?_
       refine QJ_fin (.inl rfl) (μ' := []) (μr := _) (φ' := []) (res_cell_tmp (vs := [_, _, _, _]) rfl rfl m1 tyi_42 rfl rfl) (List.Perm.refl _) (fun _ h => nomatch h) ?_
       exact ⟨((3, x.n k, 0, 0), (n : Int) + 1), ⟨by dsimp only; omega, by dsimp only; omega, .inr ⟨by dsimp only; omega, .inr ⟨t, x, k, ht0, hk3, hti, htr, h49, h53, rfl⟩⟩⟩, rfl, rfl, rfl⟩
      ·simp only [decide_eq_true_eq, Bool.not_eq_false'] at h53
       refine CJ_skip ?_
       refine QJ_then ?_
       refine CJ_seq ?_
       refine CJ_reg ?_
       refine LJ_y rfl rfl (YJ_move rfl) ?_
       refine LJ_y rfl rfl (YJ_assign rfl) ?_
       refine LJ_nil ?_
       refine QJ_then ?_
       refine CJ_exit ?_
       refine QJ_in_exit_ne rfl ?_
       refine QJ_then_exit ?_
       refine QJ_then_exit ?_
       refine QJ_in_exit_ne rfl ?_
       refine QJ_then_exit ?_
       refine QJ_in_exit ?_
       refine QJ_roundF (F := fun (i : Int × Nat) => ⟨[(0, .pointer (some ⟨B, 0, none⟩)), (3, .int .i64 bu), (5, .pointer (some ⟨b1, 0, none⟩)), (8, .pointer (some ⟨b2, 0, none⟩)), (10, .int .i64 i.1), (11, .int .i64 (i.2 : Nat))], [cellsR b2 #[.int .i64 0, .int .i64 0, .int .i64 0, .int .i64 0] 42, cellsR b1 #[.int .i64 p1, .int .i64 p2] 23], []⟩) (I := fun (i : Int × Nat) => (i.1 = -1 ∨ isReal tris i.1) ∧ (i.2 : Int) ≤ max bu 0) (m := fun (i : Int × Nat) => (bu - i.2).toNat) (i := (t, n)) ((x.n k, n + 1)) (μd := [_]) ⟨.inr h53, by dsimp only; omega⟩ (by dsimp only; omega) (And.intro rfl (And.intro rfl (And.intro rfl (And.intro rfl (And.intro rfl (And.intro rfl (trivial))))))) (permI [1, 1] rfl) (fun _ h => nomatch h) (fun _ h => h)
    ·simp only [decide_eq_false_iff_not] at h41
     have hk3 : 3 = k := by omega
     subst hk3
     refine CJ_exit ?_
     refine QJ_then_exit ?_
     refine QJ_then_exit ?_
     refine QJ_in_exit ?_
     refine QJ_then ?_
     refine CJ_seq ?_
     refine CJ_reg ?_
     refine LJ_y rfl rfl (YJ_move rfl) ?_
     refine LJ_y rfl rfl (YJ_move rfl) ?_
     refine LJ_y rfl rfl (YJ_loadN (vs := [_, _]) rfl tyi_23 m2 rfl rfl) ?_
     refine LJ_call0 rfl rfl rfl rfl rfl (within_c (h := h) (tris := tris) hP ht0 hti hto hp) (fun r h => h) ?_
     refine LJ_y rfl rfl (YJ_move rfl) ?_
     refine LJ_store (cs' := #[_, _, _, _]) (μ' := [_, _, _]) 1 rfl rfl rfl rfl tyi_42 rfl (Nat.le_of_ble_eq_true rfl) rfl rfl rfl ?_
     refine LJ_y rfl rfl (YJ_assign rfl) ?_
     refine LJ_nil ?_
     refine QJ_then ?_
     refine CJ_ret ?_
     refine QJ_in_ret ?_
     refine QJ_then_ret ?_
     refine QJ_in_ret ?_
     refine QJ_then_ret ?_
     refine QJ_in_scopeR ?_
     refine QJ_fin (.inl rfl) (μ' := []) (μr := _) (φ' := []) (res_cell_tmp (vs := [_, _, _, _]) rfl rfl m1 tyi_42 rfl rfl) (List.Perm.refl _) (fun _ h => nomatch h) ?_
     exact ⟨(place pts x t (p1, p2), (n : Int) + 1), ⟨by dsimp only; omega, by dsimp only; omega, .inr ⟨by dsimp only; omega, .inl ⟨t, x, ht0, hti, htr, ⟨hno 0 (by omega), hno 1 (by omega), hno 2 (by omega)⟩, rfl⟩⟩⟩, rfl, rfl, rfl⟩
   ·simp only [decide_eq_false_iff_not] at h28
    refine CJ_exit ?_
    refine QJ_then_exit ?_
    refine QJ_then_exit ?_
    refine QJ_in_exit ?_
    refine QJ_then ?_
    refine CJ_seq ?_
    refine CJ_reg ?_
    refine LJ_y rfl rfl (YJ_move rfl) ?_
    refine LJ_y rfl rfl (YJ_loadN (vs := [_, _]) rfl tyi_23 m1 rfl rfl) ?_
    refine LJ_call0 rfl rfl rfl rfl rfl (look_c (h := h) (tris := tris) hP hT hlen hp) (fun r h => h) ?_
    refine LJ_y rfl rfl (YJ_move rfl) ?_
    refine LJ_store (cs' := #[_, _, _, _]) (μ' := [_, _]) 0 rfl rfl rfl rfl tyi_42 rfl (Nat.le_of_ble_eq_true rfl) rfl rfl rfl ?_
    refine LJ_y rfl rfl (YJ_assign rfl) ?_
    refine LJ_nil ?_
    refine QJ_then ?_
    refine CJ_ret ?_
    refine QJ_in_scopeR ?_
    refine QJ_fin (.inl rfl) (μ' := []) (μr := _) (φ' := []) (res_cell_tmp (vs := [_, _, _, _]) rfl rfl m0 tyi_42 rfl rfl) (List.Perm.refl _) (fun _ h => nomatch h) ?_
    exact ⟨(look pts tris (p1, p2), (n : Int)), ⟨Int.natCast_nonneg n, hn, .inl rfl⟩, rfl, rfl, rfl⟩
  ·simp only [decide_eq_false_iff_not] at h24
   refine LJ_skip rfl rfl ?_
   refine LJ_skip rfl rfl ?_
   refine LJ_skip rfl rfl ?_
   refine LJ_y rfl rfl (YJ_pickF rfl rfl) ?_
   refine LJ_nil ?_
   refine QJ_then ?_
   refine CJ_condF rfl ?_
   refine CJ_exit ?_
   refine QJ_then_exit ?_
   refine QJ_then_exit ?_
   refine QJ_in_exit ?_
   refine QJ_then ?_
   refine CJ_seq ?_
   refine CJ_reg ?_
   refine LJ_y rfl rfl (YJ_move rfl) ?_
   refine LJ_y rfl rfl (YJ_loadN (vs := [_, _]) rfl tyi_23 m1 rfl rfl) ?_
   refine LJ_call0 rfl rfl rfl rfl rfl (look_c (h := h) (tris := tris) hP hT hlen hp) (fun r h => h) ?_
   refine LJ_y rfl rfl (YJ_move rfl) ?_
   refine LJ_store (cs' := #[_, _, _, _]) (μ' := [_, _]) 0 rfl rfl rfl rfl tyi_42 rfl (Nat.le_of_ble_eq_true rfl) rfl rfl rfl ?_
   refine LJ_y rfl rfl (YJ_assign rfl) ?_
   refine LJ_nil ?_
   refine QJ_then ?_
   refine CJ_ret ?_
   refine QJ_in_scopeR ?_
   refine QJ_fin (.inl rfl) (μ' := []) (μr := _) (φ' := []) (res_cell_tmp (vs := [_, _, _, _]) rfl rfl m0 tyi_42 rfl rfl) (List.Perm.refl _) (fun _ h => nomatch h) ?_
   exact ⟨(look pts tris (p1, p2), (n : Int)), ⟨Int.natCast_nonneg n, hn, .inl rfl⟩, rfl, rfl, rfl⟩
 ·simp only [decide_eq_true_eq, Bool.not_eq_false'] at h19
  refine CJ_skip ?_
  refine QJ_then ?_
  refine CJ_seq ?_
  refine CJ_reg ?_
  refine LJ_y rfl rfl (YJ_assign rfl) ?_
  refine LJ_nil ?_
  refine QJ_then ?_
  refine CJ_seq ?_
  refine CJ_label ?_
  refine QJ_then ?_
  refine CJ_seq ?_
  refine CJ_block ?_
  refine CJ_loopF (F := fun (i : Int × Nat) => ⟨[(0, .pointer (some ⟨B, 0, none⟩)), (3, .int .i64 bu), (5, .pointer (some ⟨b1, 0, none⟩)), (8, .pointer (some ⟨b2, 0, none⟩)), (10, .int .i64 i.1), (11, .int .i64 (i.2 : Nat))], [cellsR b2 #[.int .i64 0, .int .i64 0, .int .i64 0, .int .i64 0] 42, cellsR b1 #[.int .i64 p1, .int .i64 p2] 23], []⟩) (I := fun (i : Int × Nat) => (i.1 = -1 ∨ isReal tris i.1) ∧ (i.2 : Int) ≤ max bu 0) (m := fun (i : Int × Nat) => (bu - i.2).toNat) (fr, 0) (μr := []) ⟨.inr h19, by dsimp only; omega⟩ (And.intro rfl (And.intro rfl (And.intro rfl (And.intro rfl (And.intro rfl (And.intro rfl (trivial))))))) (permI [] rfl) (fun _ h => nomatch h) ?_
  rintro ⟨t, n⟩ ⟨ht, hn⟩
  try dsimp only at ht
  try dsimp only at hn
  show CJ _ _ _ [(0, .pointer (some ⟨B, 0, none⟩)), (3, .int .i64 bu), (5, .pointer (some ⟨b1, 0, none⟩)), (8, .pointer (some ⟨b2, 0, none⟩)), (10, .int .i64 t), (11, .int .i64 (n : Nat))] (cellsR b2 #[.int .i64 0, .int .i64 0, .int .i64 0, .int .i64 0] 42 :: cellsR b1 #[.int .i64 p1, .int .i64 p2] 23 :: _) _
  refine CJ_seq ?_
  refine CJ_seq ?_
  refine CJ_reg ?_
  refine LJ_y rfl rfl (YJ_move rfl) ?_
  refine LJ_y rfl rfl (YJ_bin rfl rfl rfl) ?_
  refine LJ_y rfl rfl (YJ_move rfl) ?_
  refine LJ_boolC (fun h24 => ?_) (fun h24 => ?_)
  ·simp only [decide_eq_true_eq] at h24
   refine LJ_y rfl rfl (YJ_move rfl) ?_
   refine LJ_y rfl rfl (YJ_move rfl) ?_
   refine LJ_y rfl rfl (YJ_bin rfl rfl rfl) ?_
   refine LJ_y rfl rfl (YJ_pickT rfl rfl) ?_
   refine LJ_nil ?_
   refine QJ_then ?_
   refine CJ_cond rfl (fun h28 => ?_) (fun h28 => ?_)
   ·simp only [decide_eq_true_eq] at h28
    obtain ⟨ht0, x, hti, htr⟩ := ht.resolve_left (by omega)
    have hto := hT x (List.mem_of_getElem? hti) htr
    have hnl := (List.getElem?_eq_some_iff.1 hti).1
    refine CJ_skip ?_
    refine QJ_then ?_
    refine CJ_block ?_
    refine CJ_seq ?_
    refine CJ_reg ?_
    refine LJ_y rfl rfl (YJ_move rfl) ?_
    refine LJ_y rfl rfl (YJ_bin rfl rfl (iop_add (by omega))) ?_
    refine LJ_y rfl rfl (YJ_assign rfl) ?_
    refine LJ_nil ?_
    refine QJ_then ?_
    refine CJ_seq ?_
    refine CJ_reg ?_
    refine LJ_y rfl rfl (YJ_move rfl) ?_
    refine LJ_y rfl rfl (YJ_nilCheck rfl) ?_
    refine LJ_y rfl rfl (YJ_fieldOwn rfl fld_57_1 rfl) ?_
    refine LJ_y rfl rfl (YJ_loadFactP (A := some ⟨B, 0, none⟩) (j := 1) rfl rfl tyi_54 m0 rfl) ?_
    refine LJ_y rfl rfl (YJ_move rfl) ?_
    refine LJ_y rfl rfl (YJ_ixFact rfl rfl elt_54 m2 (by decide) (by omega) (by omega) (by omega)) ?_
    refine LJ_y rfl rfl (YJ_loadFactN (vs := [.int .i64 x.v0, .int .i64 x.v1, .int .i64 x.v2, .int .i64 x.n0, .int .i64 x.n1, .int .i64 x.n2, .bool x.f0, .bool x.f1, .bool x.f2]) (xs := trCells tris) rfl tyi_37 m2 (trCells_row hti) rfl) ?_
    refine LJ_alloc (cs := #[_, _, _, _, _, _, _, _, _]) rfl rfl zer_37 rfl ?_
    intro b4
    refine LJ_store (cs' := #[_, _, _, _, _, _, _, _, _]) (μ' := [_, _, _]) 0 rfl rfl rfl rfl tyi_37 rfl (Nat.le_of_ble_eq_true rfl) rfl (wr_all rfl) rfl ?_
    refine LJ_nil ?_
    refine QJ_then ?_
    refine CJ_seq ?_
    refine CJ_seq ?_
    refine CJ_reg ?_
    refine LJ_y rfl rfl (YJ_fieldOwn rfl fld_37_1 rfl) ?_
    refine LJ_y rfl rfl (YJ_loadN (vs := [_, _, _]) rfl tyi_34 m0 rfl rfl) ?_
    refine LJ_y rfl rfl (YJ_move rfl) ?_
    refine LJ_nil ?_
    refine QJ_then ?_
    refine CJ_block ?_
    refine CJ_loopF (F := fun (i : Nat) => ⟨[(0, .pointer (some ⟨B, 0, none⟩)), (3, .int .i64 bu), (5, .pointer (some ⟨b1, 0, none⟩)), (8, .pointer (some ⟨b2, 0, none⟩)), (10, .int .i64 t), (11, .int .i64 ((n : Int) + 1)), (12, .pointer (some ⟨b4, 0, none⟩)), (39, .agg #[.int .i64 x.n0, .int .i64 x.n1, .int .i64 x.n2]), (40, .int .i64 (i : Nat))], [cellsR b4 #[.int .i64 x.v0, .int .i64 x.v1, .int .i64 x.v2, .int .i64 x.n0, .int .i64 x.n1, .int .i64 x.n2, .bool x.f0, .bool x.f1, .bool x.f2] 37, cellsR b2 #[.int .i64 0, .int .i64 0, .int .i64 0, .int .i64 0] 42, cellsR b1 #[.int .i64 p1, .int .i64 p2] 23], []⟩) (I := fun (i : Nat) => i ≤ 3 ∧ ∀ j, j < i → ¬ bey pts x j (p1, p2)) (m := fun (i : Nat) => 3 - i) 0 (μr := []) ⟨Nat.zero_le _, fun _ h => absurd h (Nat.not_lt_zero _)⟩ (And.intro rfl (And.intro rfl (And.intro rfl (And.intro rfl (And.intro rfl (And.intro rfl (And.intro rfl (And.intro rfl (And.intro rfl (trivial)))))))))) (permI [] rfl) (fun _ h => nomatch h) ?_
    rintro k ⟨hk, hno⟩
    try dsimp only at hk
    try dsimp only at hno
    show CJ _ _ _ [(0, .pointer (some ⟨B, 0, none⟩)), (3, .int .i64 bu), (5, .pointer (some ⟨b1, 0, none⟩)), (8, .pointer (some ⟨b2, 0, none⟩)), (10, .int .i64 t), (11, .int .i64 ((n : Int) + 1)), (12, .pointer (some ⟨b4, 0, none⟩)), (39, .agg #[.int .i64 x.n0, .int .i64 x.n1, .int .i64 x.n2]), (40, .int .i64 (k : Nat))] (cellsR b4 #[.int .i64 x.v0, .int .i64 x.v1, .int .i64 x.v2, .int .i64 x.n0, .int .i64 x.n1, .int .i64 x.n2, .bool x.f0, .bool x.f1, .bool x.f2] 37 :: cellsR b2 #[.int .i64 0, .int .i64 0, .int .i64 0, .int .i64 0] 42 :: cellsR b1 #[.int .i64 p1, .int .i64 p2] 23 :: _) _
    refine CJ_seq ?_
    refine CJ_reg ?_
    refine LJ_y rfl rfl (YJ_bin rfl rfl rfl) ?_
    refine LJ_nil ?_
    refine QJ_then ?_
    refine CJ_seq ?_
    refine CJ_cond rfl (fun h41 => ?_) (fun h41 => ?_)
    ·simp only [decide_eq_true_eq] at h41
     have hk3 : k < 3 := by omega
     refine CJ_skip ?_
     refine QJ_then ?_
     refine CJ_seq ?_
     refine CJ_block ?_
     refine CJ_seq ?_
     refine CJ_reg ?_
     refine LJ_y rfl rfl (YJ_move rfl) ?_
     refine LJ_y rfl rfl (YJ_index1 rfl rfl arrt_34 tyi_3 (by omega) (by omega) (n_get hk3)) ?_
     refine LJ_y rfl rfl (YJ_assign rfl) ?_
     refine LJ_y rfl rfl (YJ_assign rfl) ?_
     refine LJ_nil ?_
     refine QJ_then ?_
     refine CJ_seq ?_
     refine CJ_seq ?_
     refine CJ_reg ?_
     refine LJ_y rfl rfl (YJ_move rfl) ?_
     refine LJ_y rfl rfl (YJ_loadN (vs := [_, _, _, _, _, _, _, _, _]) rfl tyi_37 m0 rfl rfl) ?_
     refine LJ_y rfl rfl (YJ_move rfl) ?_
     refine LJ_y rfl rfl (YJ_loadN (vs := [_, _]) rfl tyi_23 m2 rfl rfl) ?_
     refine LJ_call0 rfl rfl rfl rfl rfl (beyond_c (k := k) (h := h) (tris := tris) hk3 hP hto hp) (fun r h => h) ?_
     refine LJ_y rfl rfl (YJ_not rfl) ?_
     refine LJ_nil ?_
     refine QJ_then ?_
     refine CJ_cond rfl (fun h49 => ?_) (fun h49 => ?_)
     ·simp only [decide_eq_false_iff_not, Bool.not_eq_true'] at h49
      refine CJ_exit ?_
      refine QJ_then_exit ?_
      refine QJ_in_exit ?_
      refine QJ_then ?_
      refine CJ_reg ?_
      refine LJ_y rfl rfl (YJ_bin rfl rfl (iop_add (by omega))) ?_
      refine LJ_y rfl rfl (YJ_move rfl) ?_
      refine LJ_nil ?_
      refine QJ_roundF (F := fun (i : Nat) => ⟨[(0, .pointer (some ⟨B, 0, none⟩)), (3, .int .i64 bu), (5, .pointer (some ⟨b1, 0, none⟩)), (8, .pointer (some ⟨b2, 0, none⟩)), (10, .int .i64 t), (11, .int .i64 ((n : Int) + 1)), (12, .pointer (some ⟨b4, 0, none⟩)), (39, .agg #[.int .i64 x.n0, .int .i64 x.n1, .int .i64 x.n2]), (40, .int .i64 (i : Nat))], [cellsR b4 #[.int .i64 x.v0, .int .i64 x.v1, .int .i64 x.v2, .int .i64 x.n0, .int .i64 x.n1, .int .i64 x.n2, .bool x.f0, .bool x.f1, .bool x.f2] 37, cellsR b2 #[.int .i64 0, .int .i64 0, .int .i64 0, .int .i64 0] 42, cellsR b1 #[.int .i64 p1, .int .i64 p2] 23], []⟩) (I := fun (i : Nat) => i ≤ 3 ∧ ∀ j, j < i → ¬ bey pts x j (p1, p2)) (m := fun (i : Nat) => 3 - i) (i := k) (k + 1) (μd := []) ⟨by omega, fun j hj => (Nat.lt_succ_iff_lt_or_eq.1 hj).elim (hno j) (fun q => by rw [q]; exact h49)⟩ (by omega) (And.intro rfl (And.intro rfl (And.intro rfl (And.intro rfl (And.intro rfl (And.intro rfl (And.intro rfl (And.intro rfl (And.intro rfl (trivial)))))))))) (permI [] rfl) (fun _ h => nomatch h) (fun _ h => h)
     ·simp only [decide_eq_true_eq, Bool.not_eq_false'] at h49
      refine CJ_skip ?_
      refine QJ_then ?_
      refine CJ_seq ?_
      refine CJ_seq ?_
      refine CJ_reg ?_
      refine LJ_y rfl rfl (YJ_move rfl) ?_
      refine LJ_y rfl rfl (YJ_move rfl) ?_
      refine LJ_call0 rfl rfl rfl rfl rfl (real_c (h := h) (pts := pts) (tris := tris)) (fun r h => h) ?_
      refine LJ_y rfl rfl (YJ_not rfl) ?_
      refine LJ_nil ?_
      refine QJ_then ?_
      refine CJ_cond rfl (fun h53 => ?_) (fun h53 => ?_)
      ·simp only [decide_eq_false_iff_not, Bool.not_eq_true'] at h53
       refine CJ_seq ?_
       refine CJ_reg ?_
       refine LJ_y rfl rfl (YJ_move rfl) ?_
       refine LJ_y rfl rfl (YJ_build1 (cs := [_, _, _, _]) lay_42 rfl rfl rfl) ?_
       refine LJ_y rfl rfl (YJ_move rfl) ?_
       refine LJ_store (cs' := #[_, _, _, _]) (μ' := [_, _, _]) 1 rfl rfl rfl rfl tyi_42 rfl (Nat.le_of_ble_eq_true rfl) rfl rfl rfl ?_
       refine LJ_y rfl rfl (YJ_assign rfl) ?_
       refine LJ_nil ?_
       refine QJ_then ?_
       refine CJ_ret ?_
       refine QJ_then_ret ?_
       refine QJ_in_ret ?_
       refine QJ_then_ret ?_
       refine QJ_then_ret ?_
       refine QJ_in_ret ?_
       refine QJ_then_ret ?_
       refine QJ_in_ret ?_
       refine QJ_then_ret ?_
       refine QJ_in_ret ?_
       refine QJ_then_ret ?_
       refine QJ_in_scopeR ?_
       refine QJ_fin (.inl rfl) (μ' := []) (μr := _) (φ' := []) (res_cell_tmp (vs := [_, _, _, _]) rfl rfl m1 tyi_42 rfl rfl) (List.Perm.refl _) (fun _ h => nomatch h) ?_
       exact ⟨((3, x.n k, 0, 0), (n : Int) + 1), ⟨by dsimp only; omega, by dsimp only; omega, .inr ⟨by dsimp only; omega, .inr ⟨t, x, k, ht0, hk3, hti, htr, h49, h53, rfl⟩⟩⟩, rfl, rfl, rfl⟩
      ·simp only [decide_eq_true_eq, Bool.not_eq_false'] at h53
       refine CJ_skip ?_
       refine QJ_then ?_
       refine CJ_seq ?_
       refine CJ_reg ?_
       refine LJ_y rfl rfl (YJ_move rfl) ?_
       refine LJ_y rfl rfl (YJ_assign rfl) ?_
       refine LJ_nil ?_
       refine QJ_then ?_
       refine CJ_exit ?_
       refine QJ_in_exit_ne rfl ?_
       refine QJ_then_exit ?_
       refine QJ_then_exit ?_
       refine QJ_in_exit_ne rfl ?_
       refine QJ_then_exit ?_
       refine QJ_in_exit ?_
       refine QJ_roundF (F := fun (i : Int × Nat) => ⟨[(0, .pointer (some ⟨B, 0, none⟩)), (3, .int .i64 bu), (5, .pointer (some ⟨b1, 0, none⟩)), (8, .pointer (some ⟨b2, 0, none⟩)), (10, .int .i64 i.1), (11, .int .i64 (i.2 : Nat))], [cellsR b2 #[.int .i64 0, .int .i64 0, .int .i64 0, .int .i64 0] 42, cellsR b1 #[.int .i64 p1, .int .i64 p2] 23], []⟩) (I := fun (i : Int × Nat) => (i.1 = -1 ∨ isReal tris i.1) ∧ (i.2 : Int) ≤ max bu 0) (m := fun (i : Int × Nat) => (bu - i.2).toNat) (i := (t, n)) ((x.n k, n + 1)) (μd := [_]) ⟨.inr h53, by dsimp only; omega⟩ (by dsimp only; omega) (And.intro rfl (And.intro rfl (And.intro rfl (And.intro rfl (And.intro rfl (And.intro rfl (trivial))))))) (permI [1, 1] rfl) (fun _ h => nomatch h) (fun _ h => h)
    ·simp only [decide_eq_false_iff_not] at h41
     have hk3 : 3 = k := by omega
     subst hk3
     refine CJ_exit ?_
     refine QJ_then_exit ?_
     refine QJ_then_exit ?_
     refine QJ_in_exit ?_
     refine QJ_then ?_
     refine CJ_seq ?_
     refine CJ_reg ?_
     refine LJ_y rfl rfl (YJ_move rfl) ?_
     refine LJ_y rfl rfl (YJ_move rfl) ?_
     refine LJ_y rfl rfl (YJ_loadN (vs := [_, _]) rfl tyi_23 m2 rfl rfl) ?_
     refine LJ_call0 rfl rfl rfl rfl rfl (within_c (h := h) (tris := tris) hP ht0 hti hto hp) (fun r h => h) ?_
     refine LJ_y rfl rfl (YJ_move rfl) ?_
     refine LJ_store (cs' := #[_, _, _, _]) (μ' := [_, _, _]) 1 rfl rfl rfl rfl tyi_42 rfl (Nat.le_of_ble_eq_true rfl) rfl rfl rfl ?_
     refine LJ_y rfl rfl (YJ_assign rfl) ?_
     refine LJ_nil ?_
     refine QJ_then ?_
     refine CJ_ret ?_
     refine QJ_in_ret ?_
     refine QJ_then_ret ?_
     refine QJ_in_ret ?_
     refine QJ_then_ret ?_
     refine QJ_in_scopeR ?_
     refine QJ_fin (.inl rfl) (μ' := []) (μr := _) (φ' := []) (res_cell_tmp (vs := [_, _, _, _]) rfl rfl m1 tyi_42 rfl rfl) (List.Perm.refl _) (fun _ h => nomatch h) ?_
     exact ⟨(place pts x t (p1, p2), (n : Int) + 1), ⟨by dsimp only; omega, by dsimp only; omega, .inr ⟨by dsimp only; omega, .inl ⟨t, x, ht0, hti, htr, ⟨hno 0 (by omega), hno 1 (by omega), hno 2 (by omega)⟩, rfl⟩⟩⟩, rfl, rfl, rfl⟩
   ·simp only [decide_eq_false_iff_not] at h28
    refine CJ_exit ?_
    refine QJ_then_exit ?_
    refine QJ_then_exit ?_
    refine QJ_in_exit ?_
    refine QJ_then ?_
    refine CJ_seq ?_
    refine CJ_reg ?_
    refine LJ_y rfl rfl (YJ_move rfl) ?_
    refine LJ_y rfl rfl (YJ_loadN (vs := [_, _]) rfl tyi_23 m1 rfl rfl) ?_
    refine LJ_call0 rfl rfl rfl rfl rfl (look_c (h := h) (tris := tris) hP hT hlen hp) (fun r h => h) ?_
    refine LJ_y rfl rfl (YJ_move rfl) ?_
    refine LJ_store (cs' := #[_, _, _, _]) (μ' := [_, _]) 0 rfl rfl rfl rfl tyi_42 rfl (Nat.le_of_ble_eq_true rfl) rfl rfl rfl ?_
    refine LJ_y rfl rfl (YJ_assign rfl) ?_
    refine LJ_nil ?_
    refine QJ_then ?_
    refine CJ_ret ?_
    refine QJ_in_scopeR ?_
    refine QJ_fin (.inl rfl) (μ' := []) (μr := _) (φ' := []) (res_cell_tmp (vs := [_, _, _, _]) rfl rfl m0 tyi_42 rfl rfl) (List.Perm.refl _) (fun _ h => nomatch h) ?_
    exact ⟨(look pts tris (p1, p2), (n : Int)), ⟨Int.natCast_nonneg n, hn, .inl rfl⟩, rfl, rfl, rfl⟩
  ·simp only [decide_eq_false_iff_not] at h24
   refine LJ_skip rfl rfl ?_
   refine LJ_skip rfl rfl ?_
   refine LJ_skip rfl rfl ?_
   refine LJ_y rfl rfl (YJ_pickF rfl rfl) ?_
   refine LJ_nil ?_
   refine QJ_then ?_
   refine CJ_condF rfl ?_
   refine CJ_exit ?_
   refine QJ_then_exit ?_
   refine QJ_then_exit ?_
   refine QJ_in_exit ?_
   refine QJ_then ?_
   refine CJ_seq ?_
   refine CJ_reg ?_
   refine LJ_y rfl rfl (YJ_move rfl) ?_
   refine LJ_y rfl rfl (YJ_loadN (vs := [_, _]) rfl tyi_23 m1 rfl rfl) ?_
   refine LJ_call0 rfl rfl rfl rfl rfl (look_c (h := h) (tris := tris) hP hT hlen hp) (fun r h => h) ?_
   refine LJ_y rfl rfl (YJ_move rfl) ?_
   refine LJ_store (cs' := #[_, _, _, _]) (μ' := [_, _]) 0 rfl rfl rfl rfl tyi_42 rfl (Nat.le_of_ble_eq_true rfl) rfl rfl rfl ?_
   refine LJ_y rfl rfl (YJ_assign rfl) ?_
   refine LJ_nil ?_
   refine QJ_then ?_
   refine CJ_ret ?_
   refine QJ_in_scopeR ?_
   refine QJ_fin (.inl rfl) (μ' := []) (μr := _) (φ' := []) (res_cell_tmp (vs := [_, _, _, _]) rfl rfl m0 tyi_42 rfl rfl) (List.Perm.refl _) (fun _ h => nomatch h) ?_
   exact ⟨(look pts tris (p1, p2), (n : Int)), ⟨Int.natCast_nonneg n, hn, .inl rfl⟩, rfl, rfl, rfl⟩
end Go.Proofs.Ytbanlhlggkdanaa
namespace Go.Proofs.Ytbanlhlggkdanaa
open Go.RowKit
theorem foldl_trv {pts : List (Int × Int)} {p : Int × Int} : ∀ (l : List (Nat × Tr)) (z : Bool × Int × Int × Int), l.foldl (rTri pts p) z = (l.map fun x => (x.1, trv x.2)).foldl (rTri pts p) z
 | [], _ => rfl
 | x :: l, z => by
  rw [List.map_cons, List.foldl_cons, List.foldl_cons, ← foldl_trv l]
  rfl
theorem foldl_any {pts : List (Int × Int)} {p : Int × Int} : ∀ (l : List (Nat × Tr)) (z : Bool × Int × Int × Int), (l.foldl (rTri pts p) z).1 = (z.1 || l.any fun r => decide (hld pts r.2 p))
 | [], z => by simp
 | x :: l, z => by
  rw [List.foldl_cons, foldl_any l, List.any_cons, ← Bool.or_assoc]
  rfl
theorem place_idx (pts : List (Int × Int)) (t : Tr) (i : Int) (p : Int × Int) : (place pts t i p).2.1 = i := by
 unfold place
 (repeat' split) <;> rfl
theorem place_kind (pts : List (Int × Int)) (t : Tr) (i : Int) (p : Int × Int) : (place pts t i p).1 ≠ 3 := by
 unfold place
 (repeat' split) <;> simp
theorem hld_box {pts : List (Int × Int)} {t : Tr} {X Y : Int} {p : Int × Int} (hD : 0 < A2 (ptAt pts t.v0).1 (ptAt pts t.v0).2 (ptAt pts t.v1).1 (ptAt pts t.v1).2 (ptAt pts t.v2).1 (ptAt pts t.v2).2)
  (h0 : inB X Y (ptAt pts t.v0) = true) (h1 : inB X Y (ptAt pts t.v1) = true) (h2 : inB X Y (ptAt pts t.v2) = true) (hh : hld pts t p) : 0 ≤ p.1 ∧ p.1 ≤ X ∧ 0 ≤ p.2 ∧ p.2 ≤ Y := by
 obtain ⟨g0, g1, g2⟩ := hh
 have k0 : 0 ≤ A2 (ptAt pts t.v1).1 (ptAt pts t.v1).2 (ptAt pts t.v2).1 (ptAt pts t.v2).2 p.1 p.2 := Int.not_lt.1 g0
 have k1 : 0 ≤ A2 (ptAt pts t.v2).1 (ptAt pts t.v2).2 (ptAt pts t.v0).1 (ptAt pts t.v0).2 p.1 p.2 := Int.not_lt.1 g1
 have k2 : 0 ≤ A2 (ptAt pts t.v0).1 (ptAt pts t.v0).2 (ptAt pts t.v1).1 (ptAt pts t.v1).2 p.1 p.2 := Int.not_lt.1 g2
 have hs := weights (ptAt pts t.v0).1 (ptAt pts t.v0).2 (ptAt pts t.v1).1 (ptAt pts t.v1).2 (ptAt pts t.v2).1 (ptAt pts t.v2).2 p.1 p.2
 have hx := weigh1 (ptAt pts t.v0).1 (ptAt pts t.v0).2 (ptAt pts t.v1).1 (ptAt pts t.v1).2 (ptAt pts t.v2).1 (ptAt pts t.v2).2 p.1 p.2
 have hy := weigh2 (ptAt pts t.v0).1 (ptAt pts t.v0).2 (ptAt pts t.v1).1 (ptAt pts t.v1).2 (ptAt pts t.v2).1 (ptAt pts t.v2).2 p.1 p.2
 have b0 := of_decide_eq_true h0
 have b1 := of_decide_eq_true h1
 have b2 := of_decide_eq_true h2
 generalize A2 (ptAt pts t.v0).1 (ptAt pts t.v0).2 (ptAt pts t.v1).1 (ptAt pts t.v1).2 (ptAt pts t.v2).1 (ptAt pts t.v2).2 = D at *
 generalize A2 (ptAt pts t.v1).1 (ptAt pts t.v1).2 (ptAt pts t.v2).1 (ptAt pts t.v2).2 p.1 p.2 = u at *
 generalize A2 (ptAt pts t.v2).1 (ptAt pts t.v2).2 (ptAt pts t.v0).1 (ptAt pts t.v0).2 p.1 p.2 = v at *
 generalize A2 (ptAt pts t.v0).1 (ptAt pts t.v0).2 (ptAt pts t.v1).1 (ptAt pts t.v1).2 p.1 p.2 = w at *
 have gen : ∀ (a b c q Z : Int), (0 ≤ a ∧ a ≤ Z) → (0 ≤ b ∧ b ≤ Z) → (0 ≤ c ∧ c ≤ Z) → u * a + v * b + w * c = D * q → 0 ≤ q ∧ q ≤ Z := by
  intro a b c q Z ha hb hc e
  have a1 := Int.mul_nonneg k0 ha.1
  have a2 := Int.mul_nonneg k1 hb.1
  have a3 := Int.mul_nonneg k2 hc.1
  have c1 := Int.mul_le_mul_of_nonneg_left ha.2 k0
  have c2 := Int.mul_le_mul_of_nonneg_left hb.2 k1
  have c3 := Int.mul_le_mul_of_nonneg_left hc.2 k2
  have e2 : D * Z = u * Z + v * Z + w * Z := by rw [← hs]; grind
  constructor
  ·refine Int.not_lt.1 (fun hq => ?_)
   have := Int.mul_neg_of_pos_of_neg hD hq
   omega
  ·refine Int.le_of_mul_le_mul_left (a := D) ?_ hD
   omega
 have r1 := gen _ _ _ _ X ⟨b0.1, b0.2.1⟩ ⟨b1.1, b1.2.1⟩ ⟨b2.1, b2.2.1⟩ hx
 have r2 := gen _ _ _ _ Y ⟨b0.2.2.1, b0.2.2.2⟩ ⟨b1.2.2.1, b1.2.2.2⟩ ⟨b2.2.2.1, b2.2.2.2⟩ hy
 exact ⟨r1.1, r1.2, r2.1, r2.2⟩
theorem side_out {pts : List (Int × Int)} {X Y : Int} {e p : Int × Int} (hs : sideB pts X Y e ≠ 0) (hb : A2 (ptAt pts e.1).1 (ptAt pts e.1).2 (ptAt pts e.2).1 (ptAt pts e.2).2 p.1 p.2 < 0) : ¬ (0 ≤ p.1 ∧ p.1 ≤ X ∧ 0 ≤ p.2 ∧ p.2 ≤ Y) := by
 rintro ⟨h1, h2, h3, h4⟩
 rw [A2_eq] at hb
 unfold sideB at hs
 split at hs
 ·rename_i h; rw [h.1, h.2.1] at hb
  have := Int.mul_nonneg (show 0 ≤ (ptAt pts e.2).1 - (ptAt pts e.1).1 by omega) (show 0 ≤ p.2 - 0 by omega)
  simp only [Int.sub_self, Int.zero_mul] at hb; omega
 ·split at hs
  ·rename_i h; rw [h.1, h.2.1] at hb
   have := Int.mul_nonneg (show 0 ≤ (ptAt pts e.2).2 - (ptAt pts e.1).2 by omega) (show 0 ≤ X - p.1 by omega)
   have e2 : ((ptAt pts e.2).2 - (ptAt pts e.1).2) * (p.1 - X) = -(((ptAt pts e.2).2 - (ptAt pts e.1).2) * (X - p.1)) := by grind
   simp only [Int.sub_self, Int.zero_mul] at hb; omega
  ·split at hs
   ·rename_i h; rw [h.1, h.2.1] at hb
    have := Int.mul_nonneg (show 0 ≤ (ptAt pts e.1).1 - (ptAt pts e.2).1 by omega) (show 0 ≤ Y - p.2 by omega)
    have e2 : ((ptAt pts e.2).1 - (ptAt pts e.1).1) * (p.2 - Y) = ((ptAt pts e.1).1 - (ptAt pts e.2).1) * (Y - p.2) := by grind
    simp only [Int.sub_self, Int.zero_mul] at hb; omega
   ·split at hs
    ·rename_i h; rw [h.1, h.2.1] at hb
     have := Int.mul_nonneg (show 0 ≤ (ptAt pts e.1).2 - (ptAt pts e.2).2 by omega) (show 0 ≤ p.1 - 0 by omega)
     have e2 : ((ptAt pts e.2).2 - (ptAt pts e.1).2) * (p.1 - 0) = -(((ptAt pts e.1).2 - (ptAt pts e.2).2) * (p.1 - 0)) := by grind
     simp only [Int.sub_self, Int.zero_mul] at hb; omega
    ·exact hs rfl
theorem out_side {pts : List (Int × Int)} {X Y : Int} {e p : Int × Int} {j : Nat} (hs : sideB pts X Y e = j) (h : j = 1 ∧ p.2 < 0 ∨ j = 2 ∧ X < p.1 ∨ j = 3 ∧ Y < p.2 ∨ j = 4 ∧ p.1 < 0) : A2 (ptAt pts e.1).1 (ptAt pts e.1).2 (ptAt pts e.2).1 (ptAt pts e.2).2 p.1 p.2 < 0 := by
 rw [A2_eq]
 unfold sideB at hs
 split at hs
 ·rename_i q; rw [q.1, q.2.1]
  have := Int.mul_neg_of_pos_of_neg (show 0 < (ptAt pts e.2).1 - (ptAt pts e.1).1 by omega) (show p.2 - 0 < 0 by omega)
  simp only [Int.sub_self, Int.zero_mul]; omega
 ·split at hs
  ·rename_i q; rw [q.1, q.2.1]
   have := Int.mul_pos (show 0 < (ptAt pts e.2).2 - (ptAt pts e.1).2 by omega) (show 0 < p.1 - X by omega)
   simp only [Int.sub_self, Int.zero_mul]; omega
  ·split at hs
   ·rename_i q; rw [q.1, q.2.1]
    have := Int.mul_neg_of_neg_of_pos (show (ptAt pts e.2).1 - (ptAt pts e.1).1 < 0 by omega) (show 0 < p.2 - Y by omega)
    simp only [Int.sub_self, Int.zero_mul]; omega
   ·split at hs
    ·rename_i q; rw [q.1, q.2.1]
     have := Int.mul_pos_of_neg_of_neg (show (ptAt pts e.2).2 - (ptAt pts e.1).2 < 0 by omega) (show p.1 - 0 < 0 by omega)
     simp only [Int.sub_self, Int.zero_mul]; omega
    ·omega
section
variable {pts : List (Int × Int)} {tris : List Tr} {X Y : Nat} {R : List (Nat × Tr)} {p : Int × Int}
theorem GL.okT (h : GL pts tris X Y R) : okTris pts tris := fun t ht hr => by
 obtain ⟨q, hq⟩ := List.mem_iff_getElem?.1 ht
 have := (h.tri _ (h.rvs ▸ rvs_mem hq hr)).1
 exact this
theorem GL.inBox (h : GL pts tris X Y R) {q : Nat} {t : Tr} (hq : tris[q]? = some t) (hr : t.real) (hh : hld pts t p) : 0 ≤ p.1 ∧ p.1 ≤ X ∧ 0 ≤ p.2 ∧ p.2 ≤ Y := by
 obtain ⟨_, d, b0, b1, b2⟩ := h.tri _ (h.rvs ▸ rvs_mem hq hr)
 exact hld_box (t := trv t) d b0 b1 b2 hh
theorem box_at {x X : Int} (h0 : 0 ≤ x) (h1 : x ≤ ((X.toNat : Nat) : Int)) : x.toNat ∈ List.range (X.toNat + 1) ∧ ((x.toNat : Nat) : Int) = x := ⟨List.mem_range.2 (by omega), Int.toNat_of_nonneg h0⟩
theorem GL.at (h : GL pts tris X Y R) (hp : 0 ≤ p.1 ∧ p.1 ≤ X ∧ 0 ≤ p.2 ∧ p.2 ≤ Y) : (R.any fun r => decide (hld pts r.2 p)) = true ∧ ∀ r, r ∈ R → hld pts r.2 p → rHeld pts p (place pts r.2 r.1 p) r.2 (R.foldl (rTri pts p) (false, -1, 0, 0)).2 = true := by
 have hb := h.box
 unfold boxB at hb
 simp only [List.all_eq_true] at hb
 have := hb p.1.toNat (List.mem_range.2 (by omega)) p.2.toNat (List.mem_range.2 (by omega))
 rw [Int.toNat_of_nonneg hp.1, Int.toNat_of_nonneg hp.2.2.1] at this
 rw [Bool.and_eq_true, List.all_eq_true] at this
 refine ⟨this.1, fun r hr hh => ?_⟩
 have h2 := this.2 r hr
 have h3 : decide (hld pts r.2 (p.1, p.2)) = true := decide_eq_true hh
 rw [h3] at h2
 simpa using h2
theorem GL.held (h : GL pts tris X Y R) {i : Int} {t : Tr} (hi : 0 ≤ i) (hq : tris[i.toNat]? = some t) (hr : t.real) (hh : hld pts t p) : rght pts tris p (place pts t i p) = true := by
 unfold rght
 rw [place_idx, if_neg (by omega), hq]
 dsimp only
 have hm : (i.toNat, trv t) ∈ R := h.rvs ▸ rvs_mem hq hr
 have hf : (reals tris).foldl (rTri pts p) (false, -1, 0, 0) = R.foldl (rTri pts p) (false, -1, 0, 0) := by rw [foldl_trv, ← h.rvs]; rfl
 rw [hf]
 have hs : (R.foldl (rTri pts p) (false, -1, 0, 0)).1 = true := by
  rw [foldl_any, Bool.false_or]
  exact List.any_eq_true.2 ⟨_, hm, decide_eq_true hh⟩
 have h2 := (h.at (h.inBox hq hr hh)).2 _ hm hh
 dsimp only at h2
 rw [Int.toNat_of_nonneg hi] at h2
 have hre : isReal tris (place pts t i p).2.1 := by rw [place_idx]; exact ⟨hi, t, hq, hr⟩
 unfold rEnd
 rw [if_neg (by rw [hs]; decide), if_neg (not_not_intro hre)]
 exact h2
theorem GL.out_right (h : GL pts tris X Y R) {q k : Nat} {t : Tr} (hk : k < 3) (hq : tris[q]? = some t) (hr : t.real) (hb : bey pts t k p) (hn : ¬ isReal tris (t.n k)) : rght pts tris p (3, t.n k, 0, 0) = true := by
 rcases h.out q t k hq hr hk with q1 | ⟨u0, us, g, g1, g2⟩
 ·exact absurd q1 hn
 ·have hno : ¬ (0 ≤ p.1 ∧ p.1 ≤ X ∧ 0 ≤ p.2 ∧ p.2 ≤ Y) := side_out us hb
  unfold rght
  dsimp only
  rw [if_neg (by omega), g1]
  dsimp only
  have hs : ((reals tris).foldl (rTri pts p) (false, -1, 0, 0)).1 = false := by
   rw [foldl_any, Bool.false_or, List.any_eq_false]
   intro r hr'
   obtain ⟨a, b⟩ := reals_mem.1 (show (r.1, r.2) ∈ reals tris from hr')
   simp only [decide_eq_true_eq]
   exact fun hh => hno (h.inBox a b hh)
  have hv := (h.tri _ (h.rvs ▸ rvs_mem hq hr)).1
  have hk' : ∀ j, 0 ≤ at3 t.v0 t.v1 t.v2 j := fun j => by
   obtain ⟨a, b, c⟩ := hv
   unfold at3
   split
   ·exact a.1
   ·split
    ·exact b.1
    ·exact c.1
  unfold rEnd
  rw [if_pos hs, if_pos ⟨rfl, hn, rfl, rfl⟩]
  obtain ⟨e0, e1⟩ := Prod.mk.inj g2
  obtain ⟨e1, e2⟩ := Prod.mk.inj e1
  have z0 : 0 ≤ g.v0 := by rw [e0]; exact hk' _
  have z1 : 0 ≤ g.v1 := by rw [e1]; exact hk' _
  unfold rGhost
  rw [if_neg (by omega), if_neg (by omega), if_pos e2, e0, e1]
  refine decide_eq_true ?_
  rw [A2_swap]
  have : A2 (ptAt pts (kv t.vv k).1).1 (ptAt pts (kv t.vv k).1).2 (ptAt pts (kv t.vv k).2).1 (ptAt pts (kv t.vv k).2).2 p.1 p.2 < 0 := hb
  omega
theorem look_min (h : ∀ (q : Nat) (t : Tr) (k : Nat), tris[q]? = some t → t.real → k < 3 → ¬ isReal tris (t.n k) → 0 ≤ t.n k) :
  ∀ (pre : List (Nat × Tr)), (∀ x, x ∈ pre → tris[x.1]? = some x.2 ∧ x.2.real) → ∀ (out : Int), (out = -1 ∨ 0 ≤ out) →
  (pre.foldl (lookTri pts tris p) out = out ∨ ∃ (x : Nat × Tr) (k : Nat), x ∈ pre ∧ k < 3 ∧ ¬ isReal tris (x.2.n k) ∧ bey pts x.2 k p ∧ pre.foldl (lookTri pts tris p) out = x.2.n k) ∧
  (∀ (x : Nat × Tr) (k : Nat), x ∈ pre → k < 3 → ¬ isReal tris (x.2.n k) → bey pts x.2 k p → 0 ≤ pre.foldl (lookTri pts tris p) out ∧ pre.foldl (lookTri pts tris p) out ≤ x.2.n k) ∧
  (0 ≤ out → 0 ≤ pre.foldl (lookTri pts tris p) out ∧ pre.foldl (lookTri pts tris p) out ≤ out)
 | [], _, out, _ => ⟨.inl rfl, (fun _ _ h => nomatch h), fun h => ⟨h, Int.le_refl _⟩⟩
 | y :: pre, hpre, out, ho => by
  have hy := hpre y (.head _)
  have one : ∀ (o : Int) (k : Nat), k < 3 → (o = -1 ∨ 0 ≤ o) → (lookStep pts tris p y.2 o k = -1 ∨ 0 ≤ lookStep pts tris p y.2 o k) ∧ (lookStep pts tris p y.2 o k = o ∨ (¬ isReal tris (y.2.n k) ∧ bey pts y.2 k p ∧ lookStep pts tris p y.2 o k = y.2.n k)) ∧
    (¬ isReal tris (y.2.n k) → bey pts y.2 k p → 0 ≤ lookStep pts tris p y.2 o k ∧ lookStep pts tris p y.2 o k ≤ y.2.n k) ∧ (0 ≤ o → 0 ≤ lookStep pts tris p y.2 o k ∧ lookStep pts tris p y.2 o k ≤ o) := by
   intro o k hk hoo
   unfold lookStep
   by_cases c : ¬ isReal tris (y.2.n k) ∧ bey pts y.2 k p ∧ (o < 0 ∨ y.2.n k < o)
   ·rw [if_pos c]
    have := h _ _ k hy.1 hy.2 hk c.1
    refine ⟨.inr this, .inr ⟨c.1, c.2.1, rfl⟩, fun _ _ => ⟨this, Int.le_refl _⟩, fun _ => ⟨this, ?_⟩⟩
    rcases c.2.2 with q | q <;> omega
   ·rw [if_neg c]
    refine ⟨hoo, .inl rfl, fun a b => ?_, fun a => ⟨a, Int.le_refl _⟩⟩
    have : ¬ (o < 0 ∨ y.2.n k < o) := fun q => c ⟨a, b, q⟩
    omega
  have e : lookTri pts tris p out y = lookStep pts tris p y.2 (lookStep pts tris p y.2 (lookStep pts tris p y.2 out 0) 1) 2 := rfl
  obtain ⟨a1, a2, a3, a4⟩ := one out 0 (by decide) ho
  generalize lookStep pts tris p y.2 out 0 = o1 at *
  obtain ⟨b1, b2, b3, b4⟩ := one o1 1 (by decide) a1
  generalize lookStep pts tris p y.2 o1 1 = o2 at *
  obtain ⟨c1, c2, c3, c4⟩ := one o2 2 (by decide) b1
  generalize lookStep pts tris p y.2 o2 2 = o3 at *
  obtain ⟨d1, d2, d3⟩ := look_min h pre (fun x hx => hpre x (.tail _ hx)) o3 c1
  rw [List.foldl_cons, e]
  refine ⟨?_, fun x k hx hk hn hb => ?_, fun h0 => ?_⟩
  ·rcases d1 with d1 | ⟨x, k, x1, x2⟩
   ·rw [d1]
    rcases c2 with c2 | ⟨q1, q2, q3⟩
    ·rcases b2 with b2 | ⟨q1, q2, q3⟩
     ·rcases a2 with a2 | ⟨q1, q2, q3⟩
      ·exact .inl (by rw [c2, b2, a2])
      ·exact .inr ⟨y, 0, .head _, by decide, q1, q2, by rw [c2, b2, q3]⟩
     ·exact .inr ⟨y, 1, .head _, by decide, q1, q2, by rw [c2, q3]⟩
    ·exact .inr ⟨y, 2, .head _, by decide, q1, q2, q3⟩
   ·exact .inr ⟨x, k, .tail _ x1, x2⟩
  ·rcases List.mem_cons.1 hx with rfl | hx
   ·match k, hk with
    | 0, _ =>
     have := a3 hn hb
     have t1 := b4 this.1
     have t2 := c4 t1.1
     have t3 := d3 t2.1
     exact ⟨t3.1, by omega⟩
    | 1, _ =>
     have := b3 hn hb
     have t2 := c4 this.1
     have t3 := d3 t2.1
     exact ⟨t3.1, by omega⟩
    | 2, _ =>
     have := c3 hn hb
     have t3 := d3 this.1
     exact ⟨t3.1, by omega⟩
   ·exact d2 x k hx hk hn hb
  ·have t0 := a4 h0
   have t1 := b4 t0.1
   have t2 := c4 t1.1
   have t3 := d3 t2.1
   exact ⟨t3.1, by omega⟩
theorem GL.n0 (h : GL pts tris X Y R) : ∀ (q : Nat) (t : Tr) (k : Nat), tris[q]? = some t → t.real → k < 3 → ¬ isReal tris (t.n k) → 0 ≤ t.n k := fun q t k hq hr hk hn => (h.out q t k hq hr hk).resolve_left hn |>.1
theorem GL.lookd (h : GL pts tris X Y R) : (∃ (pre suf : List (Nat × Tr)) (i : Nat) (t : Tr), reals tris = pre ++ (i, t) :: suf ∧ (∀ x, x ∈ pre → ¬ hld pts x.2 p) ∧ hld pts t p ∧ tris[i]? = some t ∧ t.real ∧ look pts tris p = place pts t i p) ∨
  ((∃ (q : Nat) (t : Tr) (k : Nat), k < 3 ∧ tris[q]? = some t ∧ t.real ∧ ¬ isReal tris (t.n k) ∧ bey pts t k p ∧ look pts tris p = (3, t.n k, 0, 0)) ∧
   ∀ (q : Nat) (t : Tr) (k : Nat), k < 3 → tris[q]? = some t → t.real → ¬ isReal tris (t.n k) → bey pts t k p → (look pts tris p).2.1 ≤ t.n k) := by
 by_cases hno : ∀ x, x ∈ reals tris → ¬ hld pts x.2 p
 ·refine .inr ?_
  rw [look_none hno]
  obtain ⟨m1, m2, _⟩ := look_min (pts := pts) (p := p) h.n0 (reals tris) (fun x hx => reals_mem.1 (show (x.1, x.2) ∈ reals tris from hx)) (-1) (.inl rfl)
  refine ⟨?_, fun q t k hk hq hr hn hb => (m2 (q, t) k (reals_mem.2 ⟨hq, hr⟩) hk hn hb).2⟩
  have hout : ¬ (0 ≤ p.1 ∧ p.1 ≤ X ∧ 0 ≤ p.2 ∧ p.2 ≤ Y) := fun hp => by
   obtain ⟨r, r1, r2⟩ := List.any_eq_true.1 (h.at hp).1
   rw [← h.rvs] at r1
   obtain ⟨x, x1, rfl⟩ := List.mem_map.1 r1
   exact hno x x1 (of_decide_eq_true r2)
  have hj : ∃ j, j ∈ [1, 2, 3, 4] ∧ (j = 1 ∧ p.2 < 0 ∨ j = 2 ∧ (X : Int) < p.1 ∨ j = 3 ∧ (Y : Int) < p.2 ∨ j = 4 ∧ p.1 < 0) := by
   by_cases a : p.2 < 0
   ·exact ⟨1, by decide, .inl ⟨rfl, a⟩⟩
   ·by_cases b : (X : Int) < p.1
    ·exact ⟨2, by decide, .inr (.inl ⟨rfl, b⟩)⟩
    ·by_cases c : (Y : Int) < p.2
     ·exact ⟨3, by decide, .inr (.inr (.inl ⟨rfl, c⟩))⟩
     ·exact ⟨4, by decide, .inr (.inr (.inr ⟨rfl, by omega⟩))⟩
  obtain ⟨j, j1, j2⟩ := hj
  obtain ⟨q, t, k, hk, hq, hr, hn, hs⟩ := h.side j j1
  have hb0 := out_side (pts := pts) (e := kv t.vv k) (p := p) hs j2
  have hb : bey pts t k p := hb0
  have hz := (m2 (q, t) k (reals_mem.2 ⟨hq, hr⟩) hk hn hb).1
  rcases m1 with m1 | ⟨x, k', x1, x2, x3, x4, x5⟩
  ·rw [m1] at hz; exact absurd hz (by decide)
  ·obtain ⟨y1, y2⟩ := reals_mem.1 (show (x.1, x.2) ∈ reals tris from x1)
   exact ⟨x.1, x.2, k', x2, y1, y2, x3, x4, by rw [x5]⟩
 ·refine .inl ?_
  have hf : ∃ x, (reals tris).find? (fun x => decide (hld pts x.2 p)) = some x := by
   cases hf : (reals tris).find? (fun x => decide (hld pts x.2 p)) with
   | some x => exact ⟨x, rfl⟩
   | none =>
    rw [List.find?_eq_none] at hf
    exact absurd (fun x hx => by simpa using hf x hx) hno
  obtain ⟨⟨i, t⟩, hf⟩ := hf
  have hlk : look pts tris p = place pts t i p := by unfold look; rw [hf]
  rw [List.find?_eq_some_iff_append] at hf
  obtain ⟨h1, pre, suf, h2, h3⟩ := hf
  have hm := reals_mem.1 (show (i, t) ∈ reals tris by rw [h2]; exact List.mem_append_right _ (.head _))
  exact ⟨pre, suf, i, t, h2, fun x hx => by simpa using h3 x hx, of_decide_eq_true h1, hm.1, hm.2, hlk⟩
theorem GL.look_right (h : GL pts tris X Y R) : rght pts tris p (look pts tris p) = true := by
 rcases h.lookd (p := p) with ⟨_, _, i, t, _, _, h3, h4, h5, h6⟩ | ⟨⟨q, t, k, hk, hq, hr, hn, hb, he⟩, _⟩
 ·rw [h6]; exact h.held (Int.natCast_nonneg i) (by simpa using h4) h5 h3
 ·rw [he]; exact h.out_right hk hq hr hb hn
theorem GL.find_right (h : GL pts tris X Y R) {bu n : Int} {x : Pl} (hf : FindOk pts tris p bu x n) : rght pts tris p x = true := by
 rcases hf.any with rfl | ⟨_, ⟨i, t, hi, h1, h2, h3, rfl⟩ | ⟨i, t, k, hi, hk, h1, h2, h3, h4, rfl⟩⟩
 ·exact h.look_right
 ·exact h.held hi h1 h2 h3
 ·exact h.out_right hk h1 h2 h3 h4
end
end Go.Proofs.Ytbanlhlggkdanaa
namespace Go.Proofs.Ytbanlhlggkdanaa
open Go.RowKit
theorem ent_54 : Enter Try.prog 54 = true := by kernel_rfl
theorem ent_22 : Enter Try.prog 22 = true := by kernel_rfl
theorem zer_4 : zer Try.prog 4 = some (.bool false) := by kernel_rfl
theorem fld_42_0 : fld Try.prog 42 0 = some 0 := by kernel_rfl
theorem fld_42_2 : fld Try.prog 42 2 = some 2 := by kernel_rfl
theorem fld_42_3 : fld Try.prog 42 3 = some 3 := by kernel_rfl
set_option maxRecDepth 100000 in
set_option maxHeartbeats 1000000 in
theorem has_c {b : Nat} {t : Tr} {v : Int} : Tri Try.prog 54 [.int .i64 v, .pointer (some ⟨b, 0, none⟩)] [cellsR b #[.int .i64 t.v0, .int .i64 t.v1, .int .i64 t.v2, .int .i64 t.n0, .int .i64 t.n1, .int .i64 t.n2, .bool t.f0, .bool t.f1, .bool t.f2] 37] [] (Ret1 (.bool (decide (hasV t v))) (cellsR b #[.int .i64 t.v0, .int .i64 t.v1, .int .i64 t.v2, .int .i64 t.n0, .int .i64 t.n1, .int .i64 t.n2, .bool t.f0, .bool t.f1, .bool t.f2] 37)) := by
 refine Tri_of (N := 23) Try.func54 rfl ent_54 rfl rfl ?_
 intro w0 S0 T0
 show CJ _ _ _ [(0, _), (1, _)] _ _
 refine CJ_seq ?_
 refine CJ_reg ?_
 refine LJ_y rfl rfl (YJ_assign rfl) ?_
 refine LJ_nil ?_
 refine QJ_then ?_
 refine CJ_seq ?_
 refine CJ_reg ?_
 refine LJ_y rfl rfl (YJ_fieldOwn rfl fld_37_0 rfl) ?_
 refine LJ_y rfl rfl (YJ_ixArr rfl rfl arrt_34 (by omega) (by omega) rfl) ?_
 refine LJ_y rfl rfl (YJ_loadL rfl tyi_3 m0 rfl) ?_
 refine LJ_y rfl rfl (YJ_move rfl) ?_
 refine LJ_y rfl rfl (YJ_bin rfl rfl rfl) ?_
 refine LJ_y rfl rfl (YJ_move rfl) ?_
 refine LJ_boolC (fun h9 => ?_) (fun h9 => ?_)
 ·simp only [decide_eq_true_eq] at h9
  refine LJ_skip rfl rfl ?_
  refine LJ_skip rfl rfl ?_
  refine LJ_skip rfl rfl ?_
  refine LJ_skip rfl rfl ?_
  refine LJ_skip rfl rfl ?_
  refine LJ_y rfl rfl (YJ_pickT rfl rfl) ?_
  refine LJ_y rfl rfl (YJ_move rfl) ?_
  refine LJ_skip rfl rfl ?_
  refine LJ_skip rfl rfl ?_
  refine LJ_skip rfl rfl ?_
  refine LJ_skip rfl rfl ?_
  refine LJ_skip rfl rfl ?_
  refine LJ_y rfl rfl (YJ_pickT rfl rfl) ?_
  refine LJ_y rfl rfl (YJ_assign rfl) ?_
  refine LJ_nil ?_
  refine QJ_then ?_
  refine CJ_ret ?_
  refine QJ_fin (.inl rfl) (μ' := [_]) (μr := []) (φ' := []) (res_tmp rfl rfl) (permI [] rfl) (fun _ h => nomatch h) ?_
  exact ⟨congrArg Value.bool (by unfold hasV; simp [h9]), rfl, rfl⟩
 ·simp only [decide_eq_false_iff_not] at h9
  refine LJ_y rfl rfl (YJ_fieldOwn rfl fld_37_0 rfl) ?_
  refine LJ_y rfl rfl (YJ_ixArr rfl rfl arrt_34 (by omega) (by omega) rfl) ?_
  refine LJ_y rfl rfl (YJ_loadL rfl tyi_3 m0 rfl) ?_
  refine LJ_y rfl rfl (YJ_move rfl) ?_
  refine LJ_y rfl rfl (YJ_bin rfl rfl rfl) ?_
  refine LJ_y rfl rfl (YJ_pickF rfl rfl) ?_
  refine LJ_y rfl rfl (YJ_move rfl) ?_
  refine LJ_boolC (fun h16 => ?_) (fun h16 => ?_)
  ·simp only [decide_eq_true_eq] at h16
   refine LJ_skip rfl rfl ?_
   refine LJ_skip rfl rfl ?_
   refine LJ_skip rfl rfl ?_
   refine LJ_skip rfl rfl ?_
   refine LJ_skip rfl rfl ?_
   refine LJ_y rfl rfl (YJ_pickT rfl rfl) ?_
   refine LJ_y rfl rfl (YJ_assign rfl) ?_
   refine LJ_nil ?_
   refine QJ_then ?_
   refine CJ_ret ?_
   refine QJ_fin (.inl rfl) (μ' := [_]) (μr := []) (φ' := []) (res_tmp rfl rfl) (permI [] rfl) (fun _ h => nomatch h) ?_
   exact ⟨congrArg Value.bool (by unfold hasV; simp [h9, h16]), rfl, rfl⟩
  ·simp only [decide_eq_false_iff_not] at h16
   refine LJ_y rfl rfl (YJ_fieldOwn rfl fld_37_0 rfl) ?_
   refine LJ_y rfl rfl (YJ_ixArr rfl rfl arrt_34 (by omega) (by omega) rfl) ?_
   refine LJ_y rfl rfl (YJ_loadL rfl tyi_3 m0 rfl) ?_
   refine LJ_y rfl rfl (YJ_move rfl) ?_
   refine LJ_y rfl rfl (YJ_bin rfl rfl rfl) ?_
   refine LJ_y rfl rfl (YJ_pickF rfl rfl) ?_
   refine LJ_y rfl rfl (YJ_assign rfl) ?_
   refine LJ_nil ?_
   refine QJ_then ?_
   refine CJ_ret ?_
   refine QJ_fin (.inl rfl) (μ' := [_]) (μr := []) (φ' := []) (res_tmp rfl rfl) (permI [] rfl) (fun _ h => nomatch h) ?_
   exact ⟨congrArg Value.bool (by unfold hasV; simp [h9, h16]), rfl, rfl⟩
theorem ptAt_def {pts : List (Int × Int)} {v : Int} : ptAt pts v = pts.getD v.toNat (0, 0) := rfl
theorem sgn_else {n : Int} (h1 : ¬ sgn n = 1) (h0 : ¬ sgn n = 0) : n < 0 := by have := sgn_cases n; omega
def cnt (pts : List (Int × Int)) (t : Tr) (p : Int × Int) : Nat → Int
 | 0 => 0
 | k + 1 => cnt pts t p k + if bey pts t k p then 0 else 1
theorem cnt_step {pts : List (Int × Int)} {t : Tr} {p : Int × Int} {k : Nat} (_ : k < 3) : cnt pts t p (k + 1) = cnt pts t p k + if bey pts t k p then 0 else 1 := rfl
theorem cnt_three {pts : List (Int × Int)} {t : Tr} {p : Int × Int} : cnt pts t p 3 = 3 ↔ hld pts t p := by
 unfold hld
 simp only [cnt]
 by_cases h0 : bey pts t 0 p <;> by_cases h1 : bey pts t 1 p <;> by_cases h2 : bey pts t 2 p <;> simp [h0, h1, h2]
theorem r_three {pts : List (Int × Int)} {p : Int × Int} {t : Tr} {s : Int × Int × Int} {k : Nat} (hk : k < 3) : ([0, 1, 2].take (k + 1)).foldl (rStep pts p t) s = rStep pts p t (([0, 1, 2].take k).foldl (rStep pts p t) s) k := by
 match k, hk with
 | 0, _ => rfl
 | 1, _ => rfl
 | 2, _ => rfl
set_option maxRecDepth 100000 in
set_option maxHeartbeats 16000000 in
theorem rgt_c {B : Nat} {h : Mh} {pts : List (Int × Int)} {tris : List Tr} {p1 p2 x1 x2 x3 x4 : Int} (hP : ∀ j, j < pts.length → P2 (pts.getD j (0, 0)).1 (pts.getD j (0, 0)).2) (hT : okTris pts tris) (hG : gOk pts tris) (hlen : tris.length ≤ 1073741824) (hp : P2 p1 p2) : Tri Try.prog 22 [.pointer (some ⟨B, 0, none⟩), ptv p1 p2, .agg #[.int .i64 x1, .int .i64 x2, .int .i64 x3, .int .i64 x4]] [] (meshFs B h pts tris) (Ret0 (.bool (rght pts tris (p1, p2) (x1, x2, x3, x4)))) := by
 refine Tri_ofM (N := 331) Try.func22 rfl ent_22 rfl rfl ?_
 intro w0 S0 T0
 show CJ _ _ _ [(0, _), (1, _), (2, _)] _ _
 refine CJ_seq ?_
 refine CJ_reg ?_
 refine LJ_box (cs := #[_]) rfl rfl rfl rfl ?_
 intro b1
 refine LJ_box (cs := #[_, _]) rfl rfl rfl rfl ?_
 intro b2
 refine LJ_box (cs := #[_, _, _, _]) rfl rfl rfl rfl ?_
 intro b3
 refine LJ_y rfl rfl (YJ_assign rfl) ?_
 refine LJ_nil ?_
 refine QJ_then ?_
 refine CJ_seq ?_
 refine CJ_seq ?_
 refine CJ_regD mix (by kernel_rfl) (fun _ _ _ _ _ h => h) _ _ (fun _ h => h) (fun _ h => h) ?_
 refine AJ_y 0 rfl (by kernel_rfl) (by kernel_rfl) rfl rfl (YJ_fieldOwn rfl fld_42_1 rfl) ?_
 refine AJ_y 1 rfl (by kernel_rfl) (by kernel_rfl) rfl rfl (YJ_loadL rfl tyi_3 m0 rfl) ?_
 refine AJ_y 2 rfl (by kernel_rfl) (by kernel_rfl) rfl rfl (YJ_bin rfl rfl rfl) ?_
 refine AJ_y 3 rfl (by kernel_rfl) (by kernel_rfl) rfl rfl (YJ_move rfl) ?_
 refine AJ_boolC (fun h26 => ?_) (fun h26 => ?_)
 ·simp only [decide_eq_true_eq] at h26
  refine AJ_skip 4 rfl (by kernel_rfl) (by kernel_rfl) rfl rfl ?_
  refine AJ_skip 5 rfl (by kernel_rfl) (by kernel_rfl) rfl rfl ?_
  refine AJ_skip 6 rfl (by kernel_rfl) (by kernel_rfl) rfl rfl ?_
  refine AJ_skip 7 rfl (by kernel_rfl) (by kernel_rfl) rfl rfl ?_
  refine AJ_skip 8 rfl (by kernel_rfl) (by kernel_rfl) rfl rfl ?_
  refine AJ_skip 9 rfl (by kernel_rfl) (by kernel_rfl) rfl rfl ?_
  refine AJ_skip 10 rfl (by kernel_rfl) (by kernel_rfl) rfl rfl ?_
  refine AJ_skip 11 rfl (by kernel_rfl) (by kernel_rfl) rfl rfl ?_
  refine AJ_y 12 rfl (by kernel_rfl) (by kernel_rfl) rfl rfl (YJ_pickT rfl rfl) ?_
  refine AJ_done (by kernel_rfl) ?_
  refine QJ_then ?_
  refine CJ_condT rfl ?_
  refine CJ_seq ?_
  refine CJ_reg ?_
  refine LJ_y rfl rfl (YJ_assign rfl) ?_
  refine LJ_nil ?_
  refine QJ_then ?_
  refine CJ_ret ?_
  refine QJ_then_ret ?_
  refine QJ_finM (.inl rfl) [] rfl (μ' := []) (μr := [_, _, _]) (φ' := []) (res_tmp rfl rfl) (permI [] rfl) (fun _ h => nomatch h) ?_
  exact ⟨congrArg Value.bool (by unfold rght; rw [if_pos h26]), rfl, rfl⟩
 ·simp only [decide_eq_false_iff_not] at h26
  refine AJ_y 4 rfl (by kernel_rfl) (by kernel_rfl) rfl rfl (YJ_fieldOwn rfl fld_42_1 rfl) ?_
  refine AJ_y 5 rfl (by kernel_rfl) (by kernel_rfl) rfl rfl (YJ_loadL rfl tyi_3 m0 rfl) ?_
  refine AJ_y 6 rfl (by kernel_rfl) (by kernel_rfl) rfl rfl (YJ_loadL rfl tyi_28 m2 rfl) ?_
  refine AJ_y 7 rfl (by kernel_rfl) (by kernel_rfl) rfl rfl (YJ_nilCheck rfl) ?_
  refine AJ_y 8 rfl (by kernel_rfl) (by kernel_rfl) rfl rfl (YJ_fieldOwn rfl fld_57_1 rfl) ?_
  refine AJ_y 9 rfl (by kernel_rfl) (by kernel_rfl) rfl rfl (YJ_loadFactP (A := some ⟨B, 0, none⟩) (j := 1) rfl rfl tyi_54 m0 rfl) ?_
  refine AJ_y 10 rfl (by kernel_rfl) (by kernel_rfl) rfl rfl (YJ_len rfl ulen_54 rfl) ?_
  refine AJ_y 11 rfl (by kernel_rfl) (by kernel_rfl) rfl rfl (YJ_bin rfl rfl rfl) ?_
  refine AJ_y 12 rfl (by kernel_rfl) (by kernel_rfl) rfl rfl (YJ_pickF rfl rfl) ?_
  refine AJ_done (by kernel_rfl) ?_
  refine QJ_then ?_
  refine CJ_cond rfl (fun h35 => ?_) (fun h35 => ?_)
  ·simp only [decide_eq_true_eq] at h35
   refine CJ_seq ?_
   refine CJ_reg ?_
   refine LJ_y rfl rfl (YJ_assign rfl) ?_
   refine LJ_nil ?_
   refine QJ_then ?_
   refine CJ_ret ?_
   refine QJ_then_ret ?_
   refine QJ_finM (.inl rfl) [] rfl (μ' := []) (μr := [_, _, _]) (φ' := []) (res_tmp rfl rfl) (permI [] rfl) (fun _ h => nomatch h) ?_
   exact ⟨congrArg Value.bool (by unfold rght; rw [if_neg (by show ¬ x2 < 0; omega)]; dsimp only; rw [List.getElem?_eq_none (by omega)]), rfl, rfl⟩
  ·simp only [decide_eq_false_iff_not] at h35
   refine CJ_skip ?_
   refine QJ_then ?_
   refine CJ_seq ?_
   obtain ⟨t, ht⟩ := get_of_lt (tris := tris) (i := x2) (by omega) (by omega)
   refine CJ_regDA mix (by kernel_rfl) (fun _ _ _ _ _ h => h) _ _ (fun _ h => h) (fun _ h => h) [⟨8, 7, 37, #[.int .i64 0, .int .i64 0, .int .i64 0, .int .i64 0, .int .i64 0, .int .i64 0, .bool false, .bool false, .bool false]⟩] 9 rfl (And.intro ⟨_, _, _, _, rfl, zer_37, rfl⟩ (trivial)) rfl rfl ?_
   refine AA_y 0 rfl (by kernel_rfl) rfl rfl rfl (YJ_loadL rfl tyi_28 m2 rfl) ?_
   refine AA_y 1 rfl (by kernel_rfl) rfl rfl rfl (YJ_nilCheck rfl) ?_
   refine AA_y 2 rfl (by kernel_rfl) rfl rfl rfl (YJ_fieldOwn rfl fld_57_1 rfl) ?_
   refine AA_y 3 rfl (by kernel_rfl) rfl rfl rfl (YJ_loadFactP (A := some ⟨B, 0, none⟩) (j := 1) rfl rfl tyi_54 m0 rfl) ?_
   refine AA_y 4 rfl (by kernel_rfl) rfl rfl rfl (YJ_fieldOwn rfl fld_42_1 rfl) ?_
   refine AA_y 5 rfl (by kernel_rfl) rfl rfl rfl (YJ_loadL rfl tyi_3 m0 rfl) ?_
   refine AA_y 6 rfl (by kernel_rfl) rfl rfl rfl (YJ_ixFact rfl rfl elt_54 m2 (by decide) (by omega) (by omega) (by omega)) ?_
   refine AA_y 7 rfl (by kernel_rfl) rfl rfl rfl (YJ_loadFactN (vs := [.int .i64 t.v0, .int .i64 t.v1, .int .i64 t.v2, .int .i64 t.n0, .int .i64 t.n1, .int .i64 t.n2, .bool t.f0, .bool t.f1, .bool t.f2]) (xs := trCells tris) rfl tyi_37 m2 (trCells_row ht) rfl) ?_
   refine AA_end (by kernel_rfl) rfl ?_
   intro bs hbs
   obtain ⟨b4, rfl⟩ := len_1 hbs
   clear hbs
   show AJ _ _ _ _ _ _ _ ((7, .pointer (some ⟨b4, 0, none⟩)) :: _) (cellsR b4 _ _ :: _) _
   refine AJ_store (cs' := #[_, _, _, _, _, _, _, _, _]) (μ' := [_, _, _, _]) 9 0 rfl (by kernel_rfl) rfl rfl rfl rfl tyi_37 rfl (Nat.le_of_ble_eq_true rfl) rfl (wr_all rfl) rfl (fun _ => AllIn.sub (And.intro m1 (And.intro m2 (And.intro m3 (trivial))))) ?_
   refine AJ_done (by kernel_rfl) ?_
   refine QJ_then ?_
   refine CJ_seq ?_
   refine CJ_reg ?_
   refine LJ_y rfl rfl (YJ_makeFunc (vs := []) (us := [_]) rfl rfl) ?_
   refine LJ_y rfl rfl (YJ_assign rfl) ?_
   refine LJ_nil ?_
   refine QJ_then ?_
   refine CJ_seq ?_
   refine CJ_reg ?_
   refine LJ_y rfl rfl (YJ_build1 (cs := [_, _]) lay_46 rfl rfl rfl) ?_
   refine LJ_alloc (cs := #[_]) rfl rfl zer_4 rfl ?_
   intro b5
   refine LJ_alloc (cs := #[_]) rfl rfl zer_3 rfl ?_
   intro b6
   refine LJ_alloc (cs := #[_, _]) rfl rfl zer_46 rfl ?_
   intro b7
   refine LJ_store (cs' := #[_]) (μ' := [_, _, _, _, _, _, _]) 2 rfl rfl rfl rfl tyi_4 rfl (Nat.le_of_ble_eq_true rfl) rfl rfl rfl ?_
   refine LJ_store (cs' := #[_]) (μ' := [_, _, _, _, _, _, _]) 1 rfl rfl rfl rfl tyi_3 rfl (Nat.le_of_ble_eq_true rfl) rfl rfl rfl ?_
   refine LJ_store (cs' := #[_, _]) (μ' := [_, _, _, _, _, _, _]) 0 rfl rfl rfl rfl tyi_46 rfl (Nat.le_of_ble_eq_true rfl) rfl rfl rfl ?_
   refine LJ_nil ?_
   refine QJ_then ?_
   refine CJ_seq ?_
   refine CJ_reg ?_
   refine LJ_y rfl rfl (YJ_loadL rfl tyi_28 m6 rfl) ?_
   refine LJ_callX rfl rfl rfl rfl rfl (all_c (B := B)) (fun _ h => nomatch h) ?_
   intro bA _
   refine LJ_y rfl rfl (YJ_assign rfl) ?_
   refine LJ_nil ?_
   refine QJ_then ?_
   refine CJ_seq ?_
   refine CJ_seq ?_
   refine CJ_reg ?_
   refine LJ_y rfl rfl (YJ_move rfl) ?_
   refine LJ_y rfl rfl (YJ_eqs rfl rfl (fun w => eqs_fn ..)) ?_
   refine LJ_nil ?_
   refine QJ_then ?_
   refine CJ_condF rfl ?_
   refine CJ_skip ?_
   refine QJ_then ?_
   refine CJ_seq ?_
   refine CJ_seq ?_
   refine CJ_reg ?_
   refine LJ_y rfl rfl (YJ_move rfl) ?_
   refine LJ_nil ?_
   refine QJ_then ?_
   refine CJ_block ?_
   refine CJ_rangeFunc (μr := [_, _]) rfl (all_it (h := h) (pts := pts) (tris := tris) hlen) (fun r h => h) (fun _ => rfl) (by kernel_rfl) (L := { ι := Bool × Int × Int × Int, I := fun pre s => s = pre.foldl (rTri pts (p1, p2)) (false, -1, 0, 0), F := fun _ s => ([cellsR b5 #[.bool s.1] 4, cellsR b6 #[.int .i64 s.2.1] 3, cellsR b7 #[.int .i64 s.2.2.1, .int .i64 s.2.2.2] 46, cellsR b2 #[.int .i64 p1, .int .i64 p2] 23, cellsR b1 #[.pointer (some ⟨B, 0, none⟩)] 28], []), κ := Unit, Ix := fun _ _ _ => False, Fx := fun _ _ => ([], []) }) (false, -1, 0, 0) rfl (permI [2, 1, 0, 2, 2] rfl) (fun _ h => nomatch h) ?_ ?_ ?_
   ·intro lR DR fnR tmpsR WR SR TR pre xR iR hpre hI
    obtain ⟨m, t⟩ := xR
    obtain ⟨hti, htr, hto⟩ := okAt hT hpre
    obtain ⟨iR, hiR⟩ : ∃ s : Bool × Int × Int × Int, iR = s := ⟨_, rfl⟩
    subst hiR
    show RJ _ _ _ _ _ ((52, _) :: (51, _) :: _) (objR lR _ :: defR DR :: _ :: _ :: _ :: _ :: _ :: []) _
    refine RJ_reg (by kernel_rfl) ?_
    refine LJ_alloc (cs := #[_, _, _, _, _, _, _, _, _]) rfl rfl zer_37 rfl ?_
    intro b8
    refine LJ_store (cs' := #[_, _, _, _, _, _, _, _, _]) (μ' := [_, _, _, _, _, _, _, _]) 0 rfl rfl rfl rfl tyi_37 rfl (Nat.le_of_ble_eq_true rfl) rfl (wr_all rfl) rfl ?_
    refine LJ_nil ?_
    refine QJ_begin (μr := [_, _, _, _, _, _, _]) (permI [1] rfl) ?_
    refine RJ_block ?_
    refine RJ_seq ?_
    refine RJ_reg (by kernel_rfl) ?_
    refine LJ_y rfl rfl (YJ_assign rfl) ?_
    refine LJ_y rfl rfl (YJ_assign rfl) ?_
    refine LJ_nil ?_
    refine QJ_thenR (by repeat with_reducible first | exact no_round | exact no_begin | apply no_then | apply no_block) ?_
    refine RJ_seq ?_
    refine RJ_seq ?_
    refine RJ_reg (by kernel_rfl) ?_
    refine LJ_y rfl rfl (YJ_move rfl) ?_
    refine LJ_nil ?_
    refine QJ_thenR (by repeat with_reducible first | exact no_round | exact no_begin | apply no_then | apply no_block) ?_
    refine RJ_block ?_
    refine RJ_loopF (F := fun (i : Nat × Int × Int × Int × Int × Int) => ⟨[(3, .pointer (some ⟨b1, 0, none⟩)), (4, .pointer (some ⟨b2, 0, none⟩)), (9, .pointer (some ⟨b5, 0, none⟩)), (10, .pointer (some ⟨b6, 0, none⟩)), (11, .pointer (some ⟨b7, 0, none⟩)), (14, .pointer (some ⟨b8, 0, none⟩)), (15, .int .i64 i.2.1), (16, .int .i64 i.2.2.1), (53, .int .i64 (i.1 : Nat))], [cellsR b6 #[.int .i64 i.2.2.2.1] 3, cellsR b7 #[.int .i64 i.2.2.2.2.1, .int .i64 i.2.2.2.2.2] 46], []⟩) (I := fun (i : Nat × Int × Int × Int × Int × Int) => i.1 ≤ 3 ∧ i.2.1 + i.2.2.1 = cnt pts t (p1, p2) i.1 ∧ (0 ≤ i.2.1 ∧ i.2.1 ≤ i.1) ∧ (0 ≤ i.2.2.1 ∧ i.2.2.1 ≤ i.1) ∧ (i.2.2.2.1, i.2.2.2.2.1, i.2.2.2.2.2) = ([0, 1, 2].take i.1).foldl (rStep pts (p1, p2) t) iR.2) (m := fun (i : Nat × Int × Int × Int × Int × Int) => 3 - i.1) (0, 0, 0, iR.2) (μr := [_, _, _, _, _, _]) ⟨Nat.zero_le _, rfl, ⟨Int.le_refl _, Int.le_refl _⟩, ⟨Int.le_refl _, Int.le_refl _⟩, rfl⟩ (And.intro rfl (And.intro rfl (And.intro rfl (And.intro rfl (And.intro rfl (And.intro rfl (And.intro rfl (And.intro rfl (And.intro rfl (trivial)))))))))) (permI [4, 4] rfl) (fun _ h => nomatch h) ?_
    rintro ⟨k, n, z, at_, e1, e2⟩ ⟨hk, hc, hn, hz, hs⟩
    try dsimp only at hk
    try dsimp only at hc
    try dsimp only at hn
    try dsimp only at hz
    try dsimp only at hs
    show RJ _ _ _ _ _ [(3, .pointer (some ⟨b1, 0, none⟩)), (4, .pointer (some ⟨b2, 0, none⟩)), (9, .pointer (some ⟨b5, 0, none⟩)), (10, .pointer (some ⟨b6, 0, none⟩)), (11, .pointer (some ⟨b7, 0, none⟩)), (14, .pointer (some ⟨b8, 0, none⟩)), (15, .int .i64 n), (16, .int .i64 z), (53, .int .i64 (k : Nat))] (cellsR b6 #[.int .i64 at_] 3 :: cellsR b7 #[.int .i64 e1, .int .i64 e2] 46 :: _ :: _ :: _ :: _ :: _ :: _ :: _) _
    refine RJ_seq ?_
    refine RJ_reg (by kernel_rfl) ?_
    refine LJ_y rfl rfl (YJ_bin rfl rfl rfl) ?_
    refine LJ_nil ?_
    refine QJ_thenR (by repeat with_reducible first | exact no_round | exact no_begin | apply no_then | apply no_block) ?_
    refine RJ_seq ?_
    refine RJ_cond rfl (fun h54 => ?_) (fun h54 => ?_)
    ·simp only [decide_eq_true_eq] at h54
     have hk3 : k < 3 := by omega
     have ha := ok_v hto (Nat.mod_lt (k + 1) (by decide) : (k + 1) % 3 < 3)
     have hb := ok_v hto (Nat.mod_lt (k + 2) (by decide) : (k + 2) % 3 < 3)
     obtain ⟨ha0, ha1⟩ := ha
     obtain ⟨hb0, hb1⟩ := hb
     have hpa := hP (t.v ((k + 1) % 3)).toNat (by omega)
     have hpb := hP (t.v ((k + 2) % 3)).toNat (by omega)
     refine RJ_skip ?_
     refine QJ_thenR (by repeat with_reducible first | exact no_round | exact no_begin | apply no_then | apply no_block) ?_
     refine RJ_seq ?_
     refine RJ_block ?_
     refine RJ_seq ?_
     refine RJ_reg (by kernel_rfl) ?_
     refine LJ_y rfl rfl (YJ_move rfl) ?_
     refine LJ_y rfl rfl (YJ_assign rfl) ?_
     refine LJ_nil ?_
     refine QJ_thenR (by repeat with_reducible first | exact no_round | exact no_begin | apply no_then | apply no_block) ?_
     refine RJ_seq ?_
     refine RJ_regD mix (by kernel_rfl) (fun _ _ _ _ _ h => h) _ _ (fun _ h => h) (fun _ h => h) (by kernel_rfl) ?_
     refine AJ_y 0 rfl (by kernel_rfl) (by kernel_rfl) rfl rfl (YJ_move rfl) ?_
     refine AJ_y 1 rfl (by kernel_rfl) (by kernel_rfl) rfl rfl (YJ_bin rfl rfl (iop_add (by omega))) ?_
     refine AJ_y 2 rfl (by kernel_rfl) (by kernel_rfl) rfl rfl (YJ_rem rfl rfl (by first | decide | omega)) ?_
     refine AJ_val (v := .int .i64 (((k + 1) % 3 : Nat) : Int)) (congrArg (Value.int .i64) (tm3 (j := 1) hk3 (by decide))) ?_
     refine AJ_y 3 rfl (by kernel_rfl) (by kernel_rfl) rfl rfl (YJ_fieldOwn rfl fld_37_0 rfl) ?_
     refine AJ_y 4 rfl (by kernel_rfl) (by kernel_rfl) rfl rfl (YJ_ixArr rfl rfl arrt_34 (by omega) (by omega) rfl) ?_
     refine AJ_y 5 rfl (by kernel_rfl) (by kernel_rfl) rfl rfl (YJ_load1 rfl tyi_3 m3 (v_get (Nat.mod_lt (k + 1) (by decide)))) ?_
     refine AJ_y 6 rfl (by kernel_rfl) (by kernel_rfl) rfl rfl (YJ_move rfl) ?_
     refine AJ_y 7 rfl (by kernel_rfl) (by kernel_rfl) rfl rfl (YJ_bin rfl rfl (iop_add (by omega))) ?_
     refine AJ_y 8 rfl (by kernel_rfl) (by kernel_rfl) rfl rfl (YJ_rem rfl rfl (by first | decide | omega)) ?_
     refine AJ_val (v := .int .i64 (((k + 2) % 3 : Nat) : Int)) (congrArg (Value.int .i64) (tm3 (j := 2) hk3 (by decide))) ?_
     refine AJ_y 9 rfl (by kernel_rfl) (by kernel_rfl) rfl rfl (YJ_fieldOwn rfl fld_37_0 rfl) ?_
     refine AJ_y 10 rfl (by kernel_rfl) (by kernel_rfl) rfl rfl (YJ_ixArr rfl rfl arrt_34 (by omega) (by omega) rfl) ?_
     refine AJ_y 11 rfl (by kernel_rfl) (by kernel_rfl) rfl rfl (YJ_load1 rfl tyi_3 m3 (v_get (Nat.mod_lt (k + 2) (by decide)))) ?_
     refine AJ_y 12 rfl (by kernel_rfl) (by kernel_rfl) rfl rfl (YJ_assign rfl) ?_
     refine AJ_y 13 rfl (by kernel_rfl) (by kernel_rfl) rfl rfl (YJ_assign rfl) ?_
     refine AJ_done (by kernel_rfl) ?_
     refine QJ_thenR (by repeat with_reducible first | exact no_round | exact no_begin | apply no_then | apply no_block) ?_
     refine RJ_seq ?_
     refine RJ_seq ?_
     refine RJ_regD mix (by kernel_rfl) (fun _ _ _ _ _ h => h) _ _ (fun _ h => h) (fun _ h => h) (by kernel_rfl) ?_
     refine AJ_y 0 rfl (by kernel_rfl) (by kernel_rfl) rfl rfl (YJ_loadL rfl tyi_28 m7 rfl) ?_
     refine AJ_y 1 rfl (by kernel_rfl) (by kernel_rfl) rfl rfl (YJ_nilCheck rfl) ?_
     refine AJ_y 2 rfl (by kernel_rfl) (by kernel_rfl) rfl rfl (YJ_fieldOwn rfl fld_57_0 rfl) ?_
     refine AJ_y 3 rfl (by kernel_rfl) (by kernel_rfl) rfl rfl (YJ_loadFactP (A := some ⟨B, 0, none⟩) (j := 0) rfl rfl tyi_26 m1 rfl) ?_
     refine AJ_y 4 rfl (by kernel_rfl) (by kernel_rfl) rfl rfl (YJ_move rfl) ?_
     refine AJ_y 5 rfl (by kernel_rfl) (by kernel_rfl) rfl rfl (YJ_ixFact rfl rfl elt_26 m2 (by decide) (by omega) (by omega) (by omega)) ?_
     refine AJ_y 6 rfl (by kernel_rfl) (by kernel_rfl) rfl rfl (YJ_loadFactN (vs := [_, _]) (xs := ptCells pts) rfl tyi_23 m2 (ptCells_get (i := (t.v ((k + 1) % 3)).toNat) (by omega)) rfl) ?_
     refine AJ_y 7 rfl (by kernel_rfl) (by kernel_rfl) rfl rfl (YJ_loadN (vs := [_, _]) rfl tyi_23 m6 rfl rfl) ?_
     refine AJ_y 8 rfl (by kernel_rfl) (by kernel_rfl) rfl rfl (YJ_eqs rfl rfl (fun _ => eqs_eql_23 ..)) ?_
     refine AJ_done (by kernel_rfl) ?_
     refine QJ_thenR (by repeat with_reducible first | exact no_round | exact no_begin | apply no_then | apply no_block) ?_
     refine RJ_cond rfl (fun h76 => ?_) (fun h76 => ?_)
     ·simp only [decide_eq_true_eq, Bool.and_eq_true] at h76
      have q1 : ptAt pts (t.v ((k + 1) % 3)) = (p1, p2) := Prod.ext h76.1 h76.2
      refine RJ_reg (by kernel_rfl) ?_
      refine LJ_y rfl rfl (YJ_move rfl) ?_
      refine LJ_store (cs' := #[_]) (μ' := [_, _, _, _, _, _, _, _]) 0 rfl rfl rfl rfl tyi_3 rfl (Nat.le_of_ble_eq_true rfl) rfl rfl rfl ?_
      refine LJ_nil ?_
      refine QJ_thenR (by repeat with_reducible first | exact no_round | exact no_begin | apply no_then | apply no_block) ?_
      refine RJ_seq ?_
      refine RJ_regD mix (by kernel_rfl) (fun _ _ _ _ _ h => h) _ _ (fun _ h => h) (fun _ h => h) (by kernel_rfl) ?_
      refine AJ_y 0 rfl (by kernel_rfl) (by kernel_rfl) rfl rfl (YJ_loadL rfl tyi_28 m7 rfl) ?_
      refine AJ_y 1 rfl (by kernel_rfl) (by kernel_rfl) rfl rfl (YJ_nilCheck rfl) ?_
      refine AJ_y 2 rfl (by kernel_rfl) (by kernel_rfl) rfl rfl (YJ_fieldOwn rfl fld_57_0 rfl) ?_
      refine AJ_y 3 rfl (by kernel_rfl) (by kernel_rfl) rfl rfl (YJ_loadFactP (A := some ⟨B, 0, none⟩) (j := 0) rfl rfl tyi_26 m1 rfl) ?_
      refine AJ_y 4 rfl (by kernel_rfl) (by kernel_rfl) rfl rfl (YJ_move rfl) ?_
      refine AJ_y 5 rfl (by kernel_rfl) (by kernel_rfl) rfl rfl (YJ_ixFact rfl rfl elt_26 m2 (by decide) (by omega) (by omega) (by omega)) ?_
      refine AJ_y 6 rfl (by kernel_rfl) (by kernel_rfl) rfl rfl (YJ_loadFactN (vs := [_, _]) (xs := ptCells pts) rfl tyi_23 m2 (ptCells_get (i := (t.v ((k + 1) % 3)).toNat) (by omega)) rfl) ?_
      refine AJ_y 7 rfl (by kernel_rfl) (by kernel_rfl) rfl rfl (YJ_loadL rfl tyi_28 m7 rfl) ?_
      refine AJ_y 8 rfl (by kernel_rfl) (by kernel_rfl) rfl rfl (YJ_nilCheck rfl) ?_
      refine AJ_y 9 rfl (by kernel_rfl) (by kernel_rfl) rfl rfl (YJ_fieldOwn rfl fld_57_0 rfl) ?_
      refine AJ_y 10 rfl (by kernel_rfl) (by kernel_rfl) rfl rfl (YJ_loadFactP (A := some ⟨B, 0, none⟩) (j := 0) rfl rfl tyi_26 m1 rfl) ?_
      refine AJ_y 11 rfl (by kernel_rfl) (by kernel_rfl) rfl rfl (YJ_move rfl) ?_
      refine AJ_y 12 rfl (by kernel_rfl) (by kernel_rfl) rfl rfl (YJ_ixFact rfl rfl elt_26 m2 (by decide) (by omega) (by omega) (by omega)) ?_
      refine AJ_y 13 rfl (by kernel_rfl) (by kernel_rfl) rfl rfl (YJ_loadFactN (vs := [_, _]) (xs := ptCells pts) rfl tyi_23 m2 (ptCells_get (i := (t.v ((k + 2) % 3)).toNat) (by omega)) rfl) ?_
      refine AJ_y 14 rfl (by kernel_rfl) (by kernel_rfl) rfl rfl (YJ_loadN (vs := [_, _]) rfl tyi_23 m6 rfl rfl) ?_
      refine AJ_call0 15 rfl (by kernel_rfl) rfl rfl rfl rfl rfl (orient_c hpa hpb hp) (AllIn.sub (by first | exact trivial | exact And.intro (by repeat first | exact .head _ | apply List.Mem.tail) trivial | exact And.intro (by repeat first | exact .head _ | apply List.Mem.tail) (And.intro (by repeat first | exact .head _ | apply List.Mem.tail) trivial))) ?_
      refine AJ_done (by kernel_rfl) ?_
      refine QJ_thenR (by repeat with_reducible first | exact no_round | exact no_begin | apply no_then | apply no_block) ?_
      refine RJ_block ?_
      refine RJ_seq ?_
      refine RJ_reg (by kernel_rfl) ?_
      refine LJ_y rfl rfl (YJ_bin rfl rfl rfl) ?_
      refine LJ_y rfl rfl (YJ_assign rfl) ?_
      refine LJ_nil ?_
      refine QJ_thenR (by repeat with_reducible first | exact no_round | exact no_begin | apply no_then | apply no_block) ?_
      refine RJ_cond rfl (fun h94 => ?_) (fun h94 => ?_)
      ·simp only [decide_eq_true_eq] at h94
       have o0 := sgn_one.1 h94
       have o1 : ¬ bey pts t k (p1, p2) := fun q => Int.lt_asymm o0 q
       have o2 : ¬ edge pts t k (p1, p2) := fun q => Int.ne_of_gt o0 q
       refine RJ_reg (by kernel_rfl) ?_
       refine LJ_y rfl rfl (YJ_move rfl) ?_
       refine LJ_y rfl rfl (YJ_bin rfl rfl (iop_add (by omega))) ?_
       refine LJ_y rfl rfl (YJ_assign rfl) ?_
       refine LJ_nil ?_
       refine QJ_in_normal ?_
       refine QJ_in_normal ?_
       refine QJ_thenR (by repeat with_reducible first | exact no_round | exact no_begin | apply no_then | apply no_block) ?_
       refine RJ_reg (by kernel_rfl) ?_
       refine LJ_y rfl rfl (YJ_bin rfl rfl (iop_add (by omega))) ?_
       refine LJ_y rfl rfl (YJ_move rfl) ?_
       refine LJ_nil ?_
       refine QJ_roundF (F := fun (i : Nat × Int × Int × Int × Int × Int) => ⟨[(3, .pointer (some ⟨b1, 0, none⟩)), (4, .pointer (some ⟨b2, 0, none⟩)), (9, .pointer (some ⟨b5, 0, none⟩)), (10, .pointer (some ⟨b6, 0, none⟩)), (11, .pointer (some ⟨b7, 0, none⟩)), (14, .pointer (some ⟨b8, 0, none⟩)), (15, .int .i64 i.2.1), (16, .int .i64 i.2.2.1), (53, .int .i64 (i.1 : Nat))], [cellsR b6 #[.int .i64 i.2.2.2.1] 3, cellsR b7 #[.int .i64 i.2.2.2.2.1, .int .i64 i.2.2.2.2.2] 46], []⟩) (I := fun (i : Nat × Int × Int × Int × Int × Int) => i.1 ≤ 3 ∧ i.2.1 + i.2.2.1 = cnt pts t (p1, p2) i.1 ∧ (0 ≤ i.2.1 ∧ i.2.1 ≤ i.1) ∧ (0 ≤ i.2.2.1 ∧ i.2.2.1 ≤ i.1) ∧ (i.2.2.2.1, i.2.2.2.2.1, i.2.2.2.2.2) = ([0, 1, 2].take i.1).foldl (rStep pts (p1, p2) t) iR.2) (m := fun (i : Nat × Int × Int × Int × Int × Int) => 3 - i.1) (i := (k, n, z, at_, e1, e2)) ((k + 1, n + 1, z, t.v ((k + 1) % 3), e1, e2)) (μd := []) ⟨by omega, by dsimp only; rw [cnt_step hk3, ← hc, if_neg o1]; omega, (by dsimp only; omega), (by dsimp only; omega), by dsimp only; rw [r_three hk3, ← hs]; unfold rStep; exact Prod.ext (if_pos q1).symm (if_neg (fun q => o2 q.1)).symm⟩ (by dsimp only; omega) (And.intro rfl (And.intro rfl (And.intro rfl (And.intro rfl (And.intro rfl (And.intro rfl (And.intro rfl (And.intro rfl (And.intro rfl (trivial)))))))))) (permI [] rfl) (fun _ h => nomatch h) (fun _ h => h)
      ·simp only [decide_eq_false_iff_not] at h94
       refine RJ_seq ?_
       refine RJ_reg (by kernel_rfl) ?_
       refine LJ_y rfl rfl (YJ_bin rfl rfl rfl) ?_
       refine LJ_y rfl rfl (YJ_assign rfl) ?_
       refine LJ_nil ?_
       refine QJ_thenR (by repeat with_reducible first | exact no_round | exact no_begin | apply no_then | apply no_block) ?_
       refine RJ_cond rfl (fun h98 => ?_) (fun h98 => ?_)
       ·simp only [decide_eq_true_eq] at h98
        have o2 : edge pts t k (p1, p2) := sgn_zero.1 h98
        have o1 : ¬ bey pts t k (p1, p2) := fun q => Int.ne_of_lt q o2
        refine RJ_seq ?_
        refine RJ_seq ?_
        refine RJ_regD mix (by kernel_rfl) (fun _ _ _ _ _ h => h) _ _ (fun _ h => h) (fun _ h => h) (by kernel_rfl) ?_
        refine AJ_y 0 rfl (by kernel_rfl) (by kernel_rfl) rfl rfl (YJ_loadN (vs := [_, _]) rfl tyi_23 m6 rfl rfl) ?_
        refine AJ_y 1 rfl (by kernel_rfl) (by kernel_rfl) rfl rfl (YJ_loadL rfl tyi_28 m7 rfl) ?_
        refine AJ_y 2 rfl (by kernel_rfl) (by kernel_rfl) rfl rfl (YJ_nilCheck rfl) ?_
        refine AJ_y 3 rfl (by kernel_rfl) (by kernel_rfl) rfl rfl (YJ_fieldOwn rfl fld_57_0 rfl) ?_
        refine AJ_y 4 rfl (by kernel_rfl) (by kernel_rfl) rfl rfl (YJ_loadFactP (A := some ⟨B, 0, none⟩) (j := 0) rfl rfl tyi_26 m1 rfl) ?_
        refine AJ_y 5 rfl (by kernel_rfl) (by kernel_rfl) rfl rfl (YJ_move rfl) ?_
        refine AJ_y 6 rfl (by kernel_rfl) (by kernel_rfl) rfl rfl (YJ_ixFact rfl rfl elt_26 m2 (by decide) (by omega) (by omega) (by omega)) ?_
        refine AJ_y 7 rfl (by kernel_rfl) (by kernel_rfl) rfl rfl (YJ_loadFactN (vs := [_, _]) (xs := ptCells pts) rfl tyi_23 m2 (ptCells_get (i := (t.v ((k + 1) % 3)).toNat) (by omega)) rfl) ?_
        refine AJ_y 8 rfl (by kernel_rfl) (by kernel_rfl) rfl rfl (YJ_loadL rfl tyi_28 m7 rfl) ?_
        refine AJ_y 9 rfl (by kernel_rfl) (by kernel_rfl) rfl rfl (YJ_nilCheck rfl) ?_
        refine AJ_y 10 rfl (by kernel_rfl) (by kernel_rfl) rfl rfl (YJ_fieldOwn rfl fld_57_0 rfl) ?_
        refine AJ_y 11 rfl (by kernel_rfl) (by kernel_rfl) rfl rfl (YJ_loadFactP (A := some ⟨B, 0, none⟩) (j := 0) rfl rfl tyi_26 m1 rfl) ?_
        refine AJ_y 12 rfl (by kernel_rfl) (by kernel_rfl) rfl rfl (YJ_move rfl) ?_
        refine AJ_y 13 rfl (by kernel_rfl) (by kernel_rfl) rfl rfl (YJ_ixFact rfl rfl elt_26 m2 (by decide) (by omega) (by omega) (by omega)) ?_
        refine AJ_y 14 rfl (by kernel_rfl) (by kernel_rfl) rfl rfl (YJ_loadFactN (vs := [_, _]) (xs := ptCells pts) rfl tyi_23 m2 (ptCells_get (i := (t.v ((k + 2) % 3)).toNat) (by omega)) rfl) ?_
        refine AJ_call0 15 rfl (by kernel_rfl) rfl rfl rfl rfl rfl (between_c hp hpa hpb) (AllIn.sub (by first | exact trivial | exact And.intro (by repeat first | exact .head _ | apply List.Mem.tail) trivial | exact And.intro (by repeat first | exact .head _ | apply List.Mem.tail) (And.intro (by repeat first | exact .head _ | apply List.Mem.tail) trivial))) ?_
        refine AJ_done (by kernel_rfl) ?_
        refine QJ_thenR (by repeat with_reducible first | exact no_round | exact no_begin | apply no_then | apply no_block) ?_
        refine RJ_cond rfl (fun h115 => ?_) (fun h115 => ?_)
        ·simp only [decide_eq_true_eq] at h115
         refine RJ_reg (by kernel_rfl) ?_
         refine LJ_y rfl rfl (YJ_move rfl) ?_
         refine LJ_y rfl rfl (YJ_move rfl) ?_
         refine LJ_y rfl rfl (YJ_min2 rfl rfl) ?_
         refine LJ_y rfl rfl (YJ_move rfl) ?_
         refine LJ_y rfl rfl (YJ_move rfl) ?_
         refine LJ_y rfl rfl (YJ_max2 rfl rfl) ?_
         refine LJ_y rfl rfl (YJ_build1 (cs := [_, _]) lay_46 rfl rfl rfl) ?_
         refine LJ_store (cs' := #[_, _]) (μ' := [_, _, _, _, _, _, _, _]) 1 rfl rfl rfl rfl tyi_46 rfl (Nat.le_of_ble_eq_true rfl) rfl rfl rfl ?_
         refine LJ_nil ?_
         refine QJ_thenR (by repeat with_reducible first | exact no_round | exact no_begin | apply no_then | apply no_block) ?_
         refine RJ_reg (by kernel_rfl) ?_
         refine LJ_y rfl rfl (YJ_move rfl) ?_
         refine LJ_y rfl rfl (YJ_bin rfl rfl (iop_add (by omega))) ?_
         refine LJ_y rfl rfl (YJ_assign rfl) ?_
         refine LJ_nil ?_
         refine QJ_in_normal ?_
         refine QJ_in_normal ?_
         refine QJ_thenR (by repeat with_reducible first | exact no_round | exact no_begin | apply no_then | apply no_block) ?_
         refine RJ_reg (by kernel_rfl) ?_
         refine LJ_y rfl rfl (YJ_bin rfl rfl (iop_add (by omega))) ?_
         refine LJ_y rfl rfl (YJ_move rfl) ?_
         refine LJ_nil ?_
         refine QJ_roundF (F := fun (i : Nat × Int × Int × Int × Int × Int) => ⟨[(3, .pointer (some ⟨b1, 0, none⟩)), (4, .pointer (some ⟨b2, 0, none⟩)), (9, .pointer (some ⟨b5, 0, none⟩)), (10, .pointer (some ⟨b6, 0, none⟩)), (11, .pointer (some ⟨b7, 0, none⟩)), (14, .pointer (some ⟨b8, 0, none⟩)), (15, .int .i64 i.2.1), (16, .int .i64 i.2.2.1), (53, .int .i64 (i.1 : Nat))], [cellsR b6 #[.int .i64 i.2.2.2.1] 3, cellsR b7 #[.int .i64 i.2.2.2.2.1, .int .i64 i.2.2.2.2.2] 46], []⟩) (I := fun (i : Nat × Int × Int × Int × Int × Int) => i.1 ≤ 3 ∧ i.2.1 + i.2.2.1 = cnt pts t (p1, p2) i.1 ∧ (0 ≤ i.2.1 ∧ i.2.1 ≤ i.1) ∧ (0 ≤ i.2.2.1 ∧ i.2.2.1 ≤ i.1) ∧ (i.2.2.2.1, i.2.2.2.2.1, i.2.2.2.2.2) = ([0, 1, 2].take i.1).foldl (rStep pts (p1, p2) t) iR.2) (m := fun (i : Nat × Int × Int × Int × Int × Int) => 3 - i.1) (i := (k, n, z, at_, e1, e2)) ((k + 1, n, z + 1, t.v ((k + 1) % 3), min (t.v ((k + 1) % 3)) (t.v ((k + 2) % 3)), max (t.v ((k + 1) % 3)) (t.v ((k + 2) % 3)))) (μd := []) ⟨by omega, by dsimp only; rw [cnt_step hk3, ← hc, if_neg o1]; omega, (by dsimp only; omega), (by dsimp only; omega), by dsimp only; rw [r_three hk3, ← hs]; unfold rStep; exact Prod.ext (if_pos q1).symm (if_pos ⟨o2, h115⟩).symm⟩ (by dsimp only; omega) (And.intro rfl (And.intro rfl (And.intro rfl (And.intro rfl (And.intro rfl (And.intro rfl (And.intro rfl (And.intro rfl (And.intro rfl (trivial)))))))))) (permI [] rfl) (fun _ h => nomatch h) (fun _ h => h)
        ·simp only [decide_eq_false_iff_not] at h115
         refine RJ_skip ?_
         refine QJ_thenR (by repeat with_reducible first | exact no_round | exact no_begin | apply no_then | apply no_block) ?_
         refine RJ_reg (by kernel_rfl) ?_
         refine LJ_y rfl rfl (YJ_move rfl) ?_
         refine LJ_y rfl rfl (YJ_bin rfl rfl (iop_add (by omega))) ?_
         refine LJ_y rfl rfl (YJ_assign rfl) ?_
         refine LJ_nil ?_
         refine QJ_in_normal ?_
         refine QJ_in_normal ?_
         refine QJ_thenR (by repeat with_reducible first | exact no_round | exact no_begin | apply no_then | apply no_block) ?_
         refine RJ_reg (by kernel_rfl) ?_
         refine LJ_y rfl rfl (YJ_bin rfl rfl (iop_add (by omega))) ?_
         refine LJ_y rfl rfl (YJ_move rfl) ?_
         refine LJ_nil ?_
         refine QJ_roundF (F := fun (i : Nat × Int × Int × Int × Int × Int) => ⟨[(3, .pointer (some ⟨b1, 0, none⟩)), (4, .pointer (some ⟨b2, 0, none⟩)), (9, .pointer (some ⟨b5, 0, none⟩)), (10, .pointer (some ⟨b6, 0, none⟩)), (11, .pointer (some ⟨b7, 0, none⟩)), (14, .pointer (some ⟨b8, 0, none⟩)), (15, .int .i64 i.2.1), (16, .int .i64 i.2.2.1), (53, .int .i64 (i.1 : Nat))], [cellsR b6 #[.int .i64 i.2.2.2.1] 3, cellsR b7 #[.int .i64 i.2.2.2.2.1, .int .i64 i.2.2.2.2.2] 46], []⟩) (I := fun (i : Nat × Int × Int × Int × Int × Int) => i.1 ≤ 3 ∧ i.2.1 + i.2.2.1 = cnt pts t (p1, p2) i.1 ∧ (0 ≤ i.2.1 ∧ i.2.1 ≤ i.1) ∧ (0 ≤ i.2.2.1 ∧ i.2.2.1 ≤ i.1) ∧ (i.2.2.2.1, i.2.2.2.2.1, i.2.2.2.2.2) = ([0, 1, 2].take i.1).foldl (rStep pts (p1, p2) t) iR.2) (m := fun (i : Nat × Int × Int × Int × Int × Int) => 3 - i.1) (i := (k, n, z, at_, e1, e2)) ((k + 1, n, z + 1, t.v ((k + 1) % 3), e1, e2)) (μd := []) ⟨by omega, by dsimp only; rw [cnt_step hk3, ← hc, if_neg o1]; omega, (by dsimp only; omega), (by dsimp only; omega), by dsimp only; rw [r_three hk3, ← hs]; unfold rStep; exact Prod.ext (if_pos q1).symm (if_neg (fun q => h115 q.2)).symm⟩ (by dsimp only; omega) (And.intro rfl (And.intro rfl (And.intro rfl (And.intro rfl (And.intro rfl (And.intro rfl (And.intro rfl (And.intro rfl (And.intro rfl (trivial)))))))))) (permI [] rfl) (fun _ h => nomatch h) (fun _ h => h)
       ·simp only [decide_eq_false_iff_not] at h98
        have o2 : ¬ edge pts t k (p1, p2) := fun q => h98 (sgn_zero.2 q)
        have o1 : bey pts t k (p1, p2) := sgn_else h94 h98
        refine RJ_skip ?_
        refine QJ_in_normal ?_
        refine QJ_in_normal ?_
        refine QJ_thenR (by repeat with_reducible first | exact no_round | exact no_begin | apply no_then | apply no_block) ?_
        refine RJ_reg (by kernel_rfl) ?_
        refine LJ_y rfl rfl (YJ_bin rfl rfl (iop_add (by omega))) ?_
        refine LJ_y rfl rfl (YJ_move rfl) ?_
        refine LJ_nil ?_
        refine QJ_roundF (F := fun (i : Nat × Int × Int × Int × Int × Int) => ⟨[(3, .pointer (some ⟨b1, 0, none⟩)), (4, .pointer (some ⟨b2, 0, none⟩)), (9, .pointer (some ⟨b5, 0, none⟩)), (10, .pointer (some ⟨b6, 0, none⟩)), (11, .pointer (some ⟨b7, 0, none⟩)), (14, .pointer (some ⟨b8, 0, none⟩)), (15, .int .i64 i.2.1), (16, .int .i64 i.2.2.1), (53, .int .i64 (i.1 : Nat))], [cellsR b6 #[.int .i64 i.2.2.2.1] 3, cellsR b7 #[.int .i64 i.2.2.2.2.1, .int .i64 i.2.2.2.2.2] 46], []⟩) (I := fun (i : Nat × Int × Int × Int × Int × Int) => i.1 ≤ 3 ∧ i.2.1 + i.2.2.1 = cnt pts t (p1, p2) i.1 ∧ (0 ≤ i.2.1 ∧ i.2.1 ≤ i.1) ∧ (0 ≤ i.2.2.1 ∧ i.2.2.1 ≤ i.1) ∧ (i.2.2.2.1, i.2.2.2.2.1, i.2.2.2.2.2) = ([0, 1, 2].take i.1).foldl (rStep pts (p1, p2) t) iR.2) (m := fun (i : Nat × Int × Int × Int × Int × Int) => 3 - i.1) (i := (k, n, z, at_, e1, e2)) ((k + 1, n, z, t.v ((k + 1) % 3), e1, e2)) (μd := []) ⟨by omega, by dsimp only; rw [cnt_step hk3, ← hc, if_pos o1]; omega, (by dsimp only; omega), (by dsimp only; omega), by dsimp only; rw [r_three hk3, ← hs]; unfold rStep; exact Prod.ext (if_pos q1).symm (if_neg (fun q => o2 q.1)).symm⟩ (by dsimp only; omega) (And.intro rfl (And.intro rfl (And.intro rfl (And.intro rfl (And.intro rfl (And.intro rfl (And.intro rfl (And.intro rfl (And.intro rfl (trivial)))))))))) (permI [] rfl) (fun _ h => nomatch h) (fun _ h => h)
     ·simp only [decide_eq_false_iff_not, Bool.and_eq_false_iff] at h76
      have q1 : ¬ ptAt pts (t.v ((k + 1) % 3)) = (p1, p2) := fun e => by
       have e1 := congrArg Prod.fst e
       have e2 := congrArg Prod.snd e
       rcases h76 with q | q
       ·exact q e1
       ·exact q e2
      refine RJ_skip ?_
      refine QJ_thenR (by repeat with_reducible first | exact no_round | exact no_begin | apply no_then | apply no_block) ?_
      refine RJ_seq ?_
      refine RJ_regD mix (by kernel_rfl) (fun _ _ _ _ _ h => h) _ _ (fun _ h => h) (fun _ h => h) (by kernel_rfl) ?_
      refine AJ_y 0 rfl (by kernel_rfl) (by kernel_rfl) rfl rfl (YJ_loadL rfl tyi_28 m7 rfl) ?_
      refine AJ_y 1 rfl (by kernel_rfl) (by kernel_rfl) rfl rfl (YJ_nilCheck rfl) ?_
      refine AJ_y 2 rfl (by kernel_rfl) (by kernel_rfl) rfl rfl (YJ_fieldOwn rfl fld_57_0 rfl) ?_
      refine AJ_y 3 rfl (by kernel_rfl) (by kernel_rfl) rfl rfl (YJ_loadFactP (A := some ⟨B, 0, none⟩) (j := 0) rfl rfl tyi_26 m1 rfl) ?_
      refine AJ_y 4 rfl (by kernel_rfl) (by kernel_rfl) rfl rfl (YJ_move rfl) ?_
      refine AJ_y 5 rfl (by kernel_rfl) (by kernel_rfl) rfl rfl (YJ_ixFact rfl rfl elt_26 m2 (by decide) (by omega) (by omega) (by omega)) ?_
      refine AJ_y 6 rfl (by kernel_rfl) (by kernel_rfl) rfl rfl (YJ_loadFactN (vs := [_, _]) (xs := ptCells pts) rfl tyi_23 m2 (ptCells_get (i := (t.v ((k + 1) % 3)).toNat) (by omega)) rfl) ?_
      refine AJ_y 7 rfl (by kernel_rfl) (by kernel_rfl) rfl rfl (YJ_loadL rfl tyi_28 m7 rfl) ?_
      refine AJ_y 8 rfl (by kernel_rfl) (by kernel_rfl) rfl rfl (YJ_nilCheck rfl) ?_
      refine AJ_y 9 rfl (by kernel_rfl) (by kernel_rfl) rfl rfl (YJ_fieldOwn rfl fld_57_0 rfl) ?_
      refine AJ_y 10 rfl (by kernel_rfl) (by kernel_rfl) rfl rfl (YJ_loadFactP (A := some ⟨B, 0, none⟩) (j := 0) rfl rfl tyi_26 m1 rfl) ?_
      refine AJ_y 11 rfl (by kernel_rfl) (by kernel_rfl) rfl rfl (YJ_move rfl) ?_
      refine AJ_y 12 rfl (by kernel_rfl) (by kernel_rfl) rfl rfl (YJ_ixFact rfl rfl elt_26 m2 (by decide) (by omega) (by omega) (by omega)) ?_
      refine AJ_y 13 rfl (by kernel_rfl) (by kernel_rfl) rfl rfl (YJ_loadFactN (vs := [_, _]) (xs := ptCells pts) rfl tyi_23 m2 (ptCells_get (i := (t.v ((k + 2) % 3)).toNat) (by omega)) rfl) ?_
      refine AJ_y 14 rfl (by kernel_rfl) (by kernel_rfl) rfl rfl (YJ_loadN (vs := [_, _]) rfl tyi_23 m6 rfl rfl) ?_
      refine AJ_call0 15 rfl (by kernel_rfl) rfl rfl rfl rfl rfl (orient_c hpa hpb hp) (AllIn.sub (by first | exact trivial | exact And.intro (by repeat first | exact .head _ | apply List.Mem.tail) trivial | exact And.intro (by repeat first | exact .head _ | apply List.Mem.tail) (And.intro (by repeat first | exact .head _ | apply List.Mem.tail) trivial))) ?_
      refine AJ_done (by kernel_rfl) ?_
      refine QJ_thenR (by repeat with_reducible first | exact no_round | exact no_begin | apply no_then | apply no_block) ?_
      refine RJ_block ?_
      refine RJ_seq ?_
      refine RJ_reg (by kernel_rfl) ?_
      refine LJ_y rfl rfl (YJ_bin rfl rfl rfl) ?_
      refine LJ_y rfl rfl (YJ_assign rfl) ?_
      refine LJ_nil ?_
      refine QJ_thenR (by repeat with_reducible first | exact no_round | exact no_begin | apply no_then | apply no_block) ?_
      refine RJ_cond rfl (fun h94 => ?_) (fun h94 => ?_)
      ·simp only [decide_eq_true_eq] at h94
       have o0 := sgn_one.1 h94
       have o1 : ¬ bey pts t k (p1, p2) := fun q => Int.lt_asymm o0 q
       have o2 : ¬ edge pts t k (p1, p2) := fun q => Int.ne_of_gt o0 q
       refine RJ_reg (by kernel_rfl) ?_
       refine LJ_y rfl rfl (YJ_move rfl) ?_
       refine LJ_y rfl rfl (YJ_bin rfl rfl (iop_add (by omega))) ?_
       refine LJ_y rfl rfl (YJ_assign rfl) ?_
       refine LJ_nil ?_
       refine QJ_in_normal ?_
       refine QJ_in_normal ?_
       refine QJ_thenR (by repeat with_reducible first | exact no_round | exact no_begin | apply no_then | apply no_block) ?_
       refine RJ_reg (by kernel_rfl) ?_
       refine LJ_y rfl rfl (YJ_bin rfl rfl (iop_add (by omega))) ?_
       refine LJ_y rfl rfl (YJ_move rfl) ?_
       refine LJ_nil ?_
       refine QJ_roundF (F := fun (i : Nat × Int × Int × Int × Int × Int) => ⟨[(3, .pointer (some ⟨b1, 0, none⟩)), (4, .pointer (some ⟨b2, 0, none⟩)), (9, .pointer (some ⟨b5, 0, none⟩)), (10, .pointer (some ⟨b6, 0, none⟩)), (11, .pointer (some ⟨b7, 0, none⟩)), (14, .pointer (some ⟨b8, 0, none⟩)), (15, .int .i64 i.2.1), (16, .int .i64 i.2.2.1), (53, .int .i64 (i.1 : Nat))], [cellsR b6 #[.int .i64 i.2.2.2.1] 3, cellsR b7 #[.int .i64 i.2.2.2.2.1, .int .i64 i.2.2.2.2.2] 46], []⟩) (I := fun (i : Nat × Int × Int × Int × Int × Int) => i.1 ≤ 3 ∧ i.2.1 + i.2.2.1 = cnt pts t (p1, p2) i.1 ∧ (0 ≤ i.2.1 ∧ i.2.1 ≤ i.1) ∧ (0 ≤ i.2.2.1 ∧ i.2.2.1 ≤ i.1) ∧ (i.2.2.2.1, i.2.2.2.2.1, i.2.2.2.2.2) = ([0, 1, 2].take i.1).foldl (rStep pts (p1, p2) t) iR.2) (m := fun (i : Nat × Int × Int × Int × Int × Int) => 3 - i.1) (i := (k, n, z, at_, e1, e2)) ((k + 1, n + 1, z, at_, e1, e2)) (μd := []) ⟨by omega, by dsimp only; rw [cnt_step hk3, ← hc, if_neg o1]; omega, (by dsimp only; omega), (by dsimp only; omega), by dsimp only; rw [r_three hk3, ← hs]; unfold rStep; exact Prod.ext (if_neg q1).symm (if_neg (fun q => o2 q.1)).symm⟩ (by dsimp only; omega) (And.intro rfl (And.intro rfl (And.intro rfl (And.intro rfl (And.intro rfl (And.intro rfl (And.intro rfl (And.intro rfl (And.intro rfl (trivial)))))))))) (permI [] rfl) (fun _ h => nomatch h) (fun _ h => h)
      ·simp only [decide_eq_false_iff_not] at h94
       refine RJ_seq ?_
       refine RJ_reg (by kernel_rfl) ?_
       refine LJ_y rfl rfl (YJ_bin rfl rfl rfl) ?_
       refine LJ_y rfl rfl (YJ_assign rfl) ?_
       refine LJ_nil ?_
       refine QJ_thenR (by repeat with_reducible first | exact no_round | exact no_begin | apply no_then | apply no_block) ?_
       refine RJ_cond rfl (fun h98 => ?_) (fun h98 => ?_)
       ·simp only [decide_eq_true_eq] at h98
        have o2 : edge pts t k (p1, p2) := sgn_zero.1 h98
        have o1 : ¬ bey pts t k (p1, p2) := fun q => Int.ne_of_lt q o2
        refine RJ_seq ?_
        refine RJ_seq ?_
        refine RJ_regD mix (by kernel_rfl) (fun _ _ _ _ _ h => h) _ _ (fun _ h => h) (fun _ h => h) (by kernel_rfl) ?_
        refine AJ_y 0 rfl (by kernel_rfl) (by kernel_rfl) rfl rfl (YJ_loadN (vs := [_, _]) rfl tyi_23 m6 rfl rfl) ?_
        refine AJ_y 1 rfl (by kernel_rfl) (by kernel_rfl) rfl rfl (YJ_loadL rfl tyi_28 m7 rfl) ?_
        refine AJ_y 2 rfl (by kernel_rfl) (by kernel_rfl) rfl rfl (YJ_nilCheck rfl) ?_
        refine AJ_y 3 rfl (by kernel_rfl) (by kernel_rfl) rfl rfl (YJ_fieldOwn rfl fld_57_0 rfl) ?_
        refine AJ_y 4 rfl (by kernel_rfl) (by kernel_rfl) rfl rfl (YJ_loadFactP (A := some ⟨B, 0, none⟩) (j := 0) rfl rfl tyi_26 m1 rfl) ?_
        refine AJ_y 5 rfl (by kernel_rfl) (by kernel_rfl) rfl rfl (YJ_move rfl) ?_
        refine AJ_y 6 rfl (by kernel_rfl) (by kernel_rfl) rfl rfl (YJ_ixFact rfl rfl elt_26 m2 (by decide) (by omega) (by omega) (by omega)) ?_
        refine AJ_y 7 rfl (by kernel_rfl) (by kernel_rfl) rfl rfl (YJ_loadFactN (vs := [_, _]) (xs := ptCells pts) rfl tyi_23 m2 (ptCells_get (i := (t.v ((k + 1) % 3)).toNat) (by omega)) rfl) ?_
        refine AJ_y 8 rfl (by kernel_rfl) (by kernel_rfl) rfl rfl (YJ_loadL rfl tyi_28 m7 rfl) ?_
        refine AJ_y 9 rfl (by kernel_rfl) (by kernel_rfl) rfl rfl (YJ_nilCheck rfl) ?_
        refine AJ_y 10 rfl (by kernel_rfl) (by kernel_rfl) rfl rfl (YJ_fieldOwn rfl fld_57_0 rfl) ?_
        refine AJ_y 11 rfl (by kernel_rfl) (by kernel_rfl) rfl rfl (YJ_loadFactP (A := some ⟨B, 0, none⟩) (j := 0) rfl rfl tyi_26 m1 rfl) ?_
        refine AJ_y 12 rfl (by kernel_rfl) (by kernel_rfl) rfl rfl (YJ_move rfl) ?_
        refine AJ_y 13 rfl (by kernel_rfl) (by kernel_rfl) rfl rfl (YJ_ixFact rfl rfl elt_26 m2 (by decide) (by omega) (by omega) (by omega)) ?_
        refine AJ_y 14 rfl (by kernel_rfl) (by kernel_rfl) rfl rfl (YJ_loadFactN (vs := [_, _]) (xs := ptCells pts) rfl tyi_23 m2 (ptCells_get (i := (t.v ((k + 2) % 3)).toNat) (by omega)) rfl) ?_
        refine AJ_call0 15 rfl (by kernel_rfl) rfl rfl rfl rfl rfl (between_c hp hpa hpb) (AllIn.sub (by first | exact trivial | exact And.intro (by repeat first | exact .head _ | apply List.Mem.tail) trivial | exact And.intro (by repeat first | exact .head _ | apply List.Mem.tail) (And.intro (by repeat first | exact .head _ | apply List.Mem.tail) trivial))) ?_
        refine AJ_done (by kernel_rfl) ?_
        refine QJ_thenR (by repeat with_reducible first | exact no_round | exact no_begin | apply no_then | apply no_block) ?_
        refine RJ_cond rfl (fun h115 => ?_) (fun h115 => ?_)
        ·simp only [decide_eq_true_eq] at h115
         refine RJ_reg (by kernel_rfl) ?_
         refine LJ_y rfl rfl (YJ_move rfl) ?_
         refine LJ_y rfl rfl (YJ_move rfl) ?_
         refine LJ_y rfl rfl (YJ_min2 rfl rfl) ?_
         refine LJ_y rfl rfl (YJ_move rfl) ?_
         refine LJ_y rfl rfl (YJ_move rfl) ?_
         refine LJ_y rfl rfl (YJ_max2 rfl rfl) ?_
         refine LJ_y rfl rfl (YJ_build1 (cs := [_, _]) lay_46 rfl rfl rfl) ?_
         refine LJ_store (cs' := #[_, _]) (μ' := [_, _, _, _, _, _, _, _]) 1 rfl rfl rfl rfl tyi_46 rfl (Nat.le_of_ble_eq_true rfl) rfl rfl rfl ?_
         refine LJ_nil ?_
         refine QJ_thenR (by repeat with_reducible first | exact no_round | exact no_begin | apply no_then | apply no_block) ?_
         refine RJ_reg (by kernel_rfl) ?_
         refine LJ_y rfl rfl (YJ_move rfl) ?_
         refine LJ_y rfl rfl (YJ_bin rfl rfl (iop_add (by omega))) ?_
         refine LJ_y rfl rfl (YJ_assign rfl) ?_
         refine LJ_nil ?_
         refine QJ_in_normal ?_
         refine QJ_in_normal ?_
         refine QJ_thenR (by repeat with_reducible first | exact no_round | exact no_begin | apply no_then | apply no_block) ?_
         refine RJ_reg (by kernel_rfl) ?_
         refine LJ_y rfl rfl (YJ_bin rfl rfl (iop_add (by omega))) ?_
         refine LJ_y rfl rfl (YJ_move rfl) ?_
         refine LJ_nil ?_
         refine QJ_roundF (F := fun (i : Nat × Int × Int × Int × Int × Int) => ⟨[(3, .pointer (some ⟨b1, 0, none⟩)), (4, .pointer (some ⟨b2, 0, none⟩)), (9, .pointer (some ⟨b5, 0, none⟩)), (10, .pointer (some ⟨b6, 0, none⟩)), (11, .pointer (some ⟨b7, 0, none⟩)), (14, .pointer (some ⟨b8, 0, none⟩)), (15, .int .i64 i.2.1), (16, .int .i64 i.2.2.1), (53, .int .i64 (i.1 : Nat))], [cellsR b6 #[.int .i64 i.2.2.2.1] 3, cellsR b7 #[.int .i64 i.2.2.2.2.1, .int .i64 i.2.2.2.2.2] 46], []⟩) (I := fun (i : Nat × Int × Int × Int × Int × Int) => i.1 ≤ 3 ∧ i.2.1 + i.2.2.1 = cnt pts t (p1, p2) i.1 ∧ (0 ≤ i.2.1 ∧ i.2.1 ≤ i.1) ∧ (0 ≤ i.2.2.1 ∧ i.2.2.1 ≤ i.1) ∧ (i.2.2.2.1, i.2.2.2.2.1, i.2.2.2.2.2) = ([0, 1, 2].take i.1).foldl (rStep pts (p1, p2) t) iR.2) (m := fun (i : Nat × Int × Int × Int × Int × Int) => 3 - i.1) (i := (k, n, z, at_, e1, e2)) ((k + 1, n, z + 1, at_, min (t.v ((k + 1) % 3)) (t.v ((k + 2) % 3)), max (t.v ((k + 1) % 3)) (t.v ((k + 2) % 3)))) (μd := []) ⟨by omega, by dsimp only; rw [cnt_step hk3, ← hc, if_neg o1]; omega, (by dsimp only; omega), (by dsimp only; omega), by dsimp only; rw [r_three hk3, ← hs]; unfold rStep; exact Prod.ext (if_neg q1).symm (if_pos ⟨o2, h115⟩).symm⟩ (by dsimp only; omega) (And.intro rfl (And.intro rfl (And.intro rfl (And.intro rfl (And.intro rfl (And.intro rfl (And.intro rfl (And.intro rfl (And.intro rfl (trivial)))))))))) (permI [] rfl) (fun _ h => nomatch h) (fun _ h => h)
        ·simp only [decide_eq_false_iff_not] at h115
         refine RJ_skip ?_
         refine QJ_thenR (by repeat with_reducible first | exact no_round | exact no_begin | apply no_then | apply no_block) ?_
         refine RJ_reg (by kernel_rfl) ?_
         refine LJ_y rfl rfl (YJ_move rfl) ?_
         refine LJ_y rfl rfl (YJ_bin rfl rfl (iop_add (by omega))) ?_
         refine LJ_y rfl rfl (YJ_assign rfl) ?_
         refine LJ_nil ?_
         refine QJ_in_normal ?_
         refine QJ_in_normal ?_
         refine QJ_thenR (by repeat with_reducible first | exact no_round | exact no_begin | apply no_then | apply no_block) ?_
         refine RJ_reg (by kernel_rfl) ?_
         refine LJ_y rfl rfl (YJ_bin rfl rfl (iop_add (by omega))) ?_
         refine LJ_y rfl rfl (YJ_move rfl) ?_
         refine LJ_nil ?_
         refine QJ_roundF (F := fun (i : Nat × Int × Int × Int × Int × Int) => ⟨[(3, .pointer (some ⟨b1, 0, none⟩)), (4, .pointer (some ⟨b2, 0, none⟩)), (9, .pointer (some ⟨b5, 0, none⟩)), (10, .pointer (some ⟨b6, 0, none⟩)), (11, .pointer (some ⟨b7, 0, none⟩)), (14, .pointer (some ⟨b8, 0, none⟩)), (15, .int .i64 i.2.1), (16, .int .i64 i.2.2.1), (53, .int .i64 (i.1 : Nat))], [cellsR b6 #[.int .i64 i.2.2.2.1] 3, cellsR b7 #[.int .i64 i.2.2.2.2.1, .int .i64 i.2.2.2.2.2] 46], []⟩) (I := fun (i : Nat × Int × Int × Int × Int × Int) => i.1 ≤ 3 ∧ i.2.1 + i.2.2.1 = cnt pts t (p1, p2) i.1 ∧ (0 ≤ i.2.1 ∧ i.2.1 ≤ i.1) ∧ (0 ≤ i.2.2.1 ∧ i.2.2.1 ≤ i.1) ∧ (i.2.2.2.1, i.2.2.2.2.1, i.2.2.2.2.2) = ([0, 1, 2].take i.1).foldl (rStep pts (p1, p2) t) iR.2) (m := fun (i : Nat × Int × Int × Int × Int × Int) => 3 - i.1) (i := (k, n, z, at_, e1, e2)) ((k + 1, n, z + 1, at_, e1, e2)) (μd := []) ⟨by omega, by dsimp only; rw [cnt_step hk3, ← hc, if_neg o1]; omega, (by dsimp only; omega), (by dsimp only; omega), by dsimp only; rw [r_three hk3, ← hs]; unfold rStep; exact Prod.ext (if_neg q1).symm (if_neg (fun q => h115 q.2)).symm⟩ (by dsimp only; omega) (And.intro rfl (And.intro rfl (And.intro rfl (And.intro rfl (And.intro rfl (And.intro rfl (And.intro rfl (And.intro rfl (And.intro rfl (trivial)))))))))) (permI [] rfl) (fun _ h => nomatch h) (fun _ h => h)
       ·simp only [decide_eq_false_iff_not] at h98
        have o2 : ¬ edge pts t k (p1, p2) := fun q => h98 (sgn_zero.2 q)
        have o1 : bey pts t k (p1, p2) := sgn_else h94 h98
        refine RJ_skip ?_
        refine QJ_in_normal ?_
        refine QJ_in_normal ?_
        refine QJ_thenR (by repeat with_reducible first | exact no_round | exact no_begin | apply no_then | apply no_block) ?_
        refine RJ_reg (by kernel_rfl) ?_
        refine LJ_y rfl rfl (YJ_bin rfl rfl (iop_add (by omega))) ?_
        refine LJ_y rfl rfl (YJ_move rfl) ?_
        refine LJ_nil ?_
        refine QJ_roundF (F := fun (i : Nat × Int × Int × Int × Int × Int) => ⟨[(3, .pointer (some ⟨b1, 0, none⟩)), (4, .pointer (some ⟨b2, 0, none⟩)), (9, .pointer (some ⟨b5, 0, none⟩)), (10, .pointer (some ⟨b6, 0, none⟩)), (11, .pointer (some ⟨b7, 0, none⟩)), (14, .pointer (some ⟨b8, 0, none⟩)), (15, .int .i64 i.2.1), (16, .int .i64 i.2.2.1), (53, .int .i64 (i.1 : Nat))], [cellsR b6 #[.int .i64 i.2.2.2.1] 3, cellsR b7 #[.int .i64 i.2.2.2.2.1, .int .i64 i.2.2.2.2.2] 46], []⟩) (I := fun (i : Nat × Int × Int × Int × Int × Int) => i.1 ≤ 3 ∧ i.2.1 + i.2.2.1 = cnt pts t (p1, p2) i.1 ∧ (0 ≤ i.2.1 ∧ i.2.1 ≤ i.1) ∧ (0 ≤ i.2.2.1 ∧ i.2.2.1 ≤ i.1) ∧ (i.2.2.2.1, i.2.2.2.2.1, i.2.2.2.2.2) = ([0, 1, 2].take i.1).foldl (rStep pts (p1, p2) t) iR.2) (m := fun (i : Nat × Int × Int × Int × Int × Int) => 3 - i.1) (i := (k, n, z, at_, e1, e2)) ((k + 1, n, z, at_, e1, e2)) (μd := []) ⟨by omega, by dsimp only; rw [cnt_step hk3, ← hc, if_pos o1]; omega, (by dsimp only; omega), (by dsimp only; omega), by dsimp only; rw [r_three hk3, ← hs]; unfold rStep; exact Prod.ext (if_neg q1).symm (if_neg (fun q => o2 q.1)).symm⟩ (by dsimp only; omega) (And.intro rfl (And.intro rfl (And.intro rfl (And.intro rfl (And.intro rfl (And.intro rfl (And.intro rfl (And.intro rfl (And.intro rfl (trivial)))))))))) (permI [] rfl) (fun _ h => nomatch h) (fun _ h => h)
    ·simp only [decide_eq_false_iff_not] at h54
     refine RJ_exit ?_
     refine QJ_then_exit ?_
     refine QJ_then_exit ?_
     refine QJ_in_exit ?_
     refine QJ_thenR (by repeat with_reducible first | exact no_round | exact no_begin | apply no_then | apply no_block) ?_
     refine RJ_reg (by kernel_rfl) ?_
     refine LJ_y rfl rfl (YJ_loadL rfl tyi_4 m5 rfl) ?_
     refine LJ_y rfl rfl (YJ_move rfl) ?_
     refine LJ_boolC (fun h127 => ?_) (fun h127 => ?_)
     ·skip
      refine LJ_skip rfl rfl ?_
      refine LJ_skip rfl rfl ?_
      refine LJ_skip rfl rfl ?_
      refine LJ_skip rfl rfl ?_
      refine LJ_y rfl rfl (YJ_pickT rfl rfl) ?_
      refine LJ_store (cs' := #[_]) (μ' := [_, _, _, _, _, _, _, _]) 5 rfl rfl rfl rfl tyi_4 rfl (Nat.le_of_ble_eq_true rfl) rfl rfl rfl ?_
      refine LJ_nil ?_
      refine QJ_in_normal ?_
      refine QJ_again (μ1 := [_, _, _, _, _, _]) (μ2 := [_]) (φ1 := []) (permI [2, 3, 3, 0, 0, 1, 1] rfl) (fun _ h => nomatch h) ?_
      exact .inl ⟨rfl, (true, at_, e1, e2), (by
       have hI3 : iR = pre.foldl (rTri pts (p1, p2)) (false, -1, 0, 0) := hI
       show (_, at_, e1, e2) = (pre ++ [(m, t)]).foldl (rTri pts (p1, p2)) (false, -1, 0, 0)
       rw [List.foldl_append, ← hI3]
       show _ = (iR.1 || decide (hld pts t (p1, p2)), [0, 1, 2].foldl (rStep pts (p1, p2) t) iR.2)
       have hk4 : k = 3 := by omega
       subst hk4
       rw [show [0, 1, 2].foldl (rStep pts (p1, p2) t) iR.2 = (at_, e1, e2) from hs.symm]
       have hcn := cnt_three (pts := pts) (t := t) (p := (p1, p2))
       rw [← hc] at hcn
       simp [h127, ← hcn]), rfl, rfl⟩
     ·skip
      refine LJ_y rfl rfl (YJ_move rfl) ?_
      refine LJ_y rfl rfl (YJ_move rfl) ?_
      refine LJ_y rfl rfl (YJ_bin rfl rfl (iop_add (by omega))) ?_
      refine LJ_y rfl rfl (YJ_bin rfl rfl rfl) ?_
      refine LJ_y rfl rfl (YJ_pickF rfl rfl) ?_
      refine LJ_store (cs' := #[_]) (μ' := [_, _, _, _, _, _, _, _]) 5 rfl rfl rfl rfl tyi_4 rfl (Nat.le_of_ble_eq_true rfl) rfl rfl rfl ?_
      refine LJ_nil ?_
      refine QJ_in_normal ?_
      refine QJ_again (μ1 := [_, _, _, _, _, _]) (μ2 := [_]) (φ1 := []) (permI [2, 3, 3, 0, 0, 1, 1] rfl) (fun _ h => nomatch h) ?_
      exact .inl ⟨rfl, (decide (n + z = 3), at_, e1, e2), (by
       have hI3 : iR = pre.foldl (rTri pts (p1, p2)) (false, -1, 0, 0) := hI
       show (_, at_, e1, e2) = (pre ++ [(m, t)]).foldl (rTri pts (p1, p2)) (false, -1, 0, 0)
       rw [List.foldl_append, ← hI3]
       show _ = (iR.1 || decide (hld pts t (p1, p2)), [0, 1, 2].foldl (rStep pts (p1, p2) t) iR.2)
       have hk4 : k = 3 := by omega
       subst hk4
       rw [show [0, 1, 2].foldl (rStep pts (p1, p2) t) iR.2 = (at_, e1, e2) from hs.symm]
       have hcn := cnt_three (pts := pts) (t := t) (p := (p1, p2))
       rw [← hc] at hcn
       simp [h127, ← hcn]), rfl, rfl⟩
   ·intro D0 iR hI
    obtain ⟨ins, at_, e1, e2⟩ := iR
    have he : rght pts tris (p1, p2) (x1, x2, x3, x4) = rEnd pts tris (p1, p2) (x1, x2, x3, x4) t (ins, at_, e1, e2) := by
     have hI2 : (ins, at_, e1, e2) = (reals tris).foldl (rTri pts (p1, p2)) (false, -1, 0, 0) := hI
     unfold rght
     rw [if_neg (by show ¬ x2 < 0; omega)]
     dsimp only
     rw [ht, ← hI2]
    show QJ _ _ _ _ (defR D0 :: cellsR b5 #[.bool ins] 4 :: cellsR b6 #[.int .i64 at_] 3 :: cellsR b7 #[.int .i64 e1, .int .i64 e2] 46 :: cellsR b2 #[.int .i64 p1, .int .i64 p2] 23 :: cellsR b1 #[.pointer (some ⟨B, 0, none⟩)] 28 :: _) _
    refine QJ_in_normal ?_
    refine QJ_then ?_
    refine CJ_seq ?_
    refine CJ_block ?_
    refine CJ_seq ?_
    refine CJ_reg ?_
    refine LJ_y rfl rfl (YJ_loadL rfl tyi_4 m1 rfl) ?_
    refine LJ_y rfl rfl (YJ_not rfl) ?_
    refine LJ_y rfl rfl (YJ_assign rfl) ?_
    refine LJ_nil ?_
    refine QJ_then ?_
    refine CJ_cond rfl (fun h133 => ?_) (fun h133 => ?_)
    ·simp only [Bool.not_eq_true'] at h133
     refine CJ_seq ?_
     refine CJ_seq ?_
     refine CJ_reg ?_
     refine LJ_y rfl rfl (YJ_fieldOwn rfl fld_42_0 rfl) ?_
     refine LJ_y rfl rfl (YJ_loadL rfl tyi_3 m7 rfl) ?_
     refine LJ_y rfl rfl (YJ_bin rfl rfl rfl) ?_
     refine LJ_y rfl rfl (YJ_move rfl) ?_
     refine LJ_boolC (fun h139 => ?_) (fun h139 => ?_)
     ·simp only [decide_eq_false_iff_not, Bool.not_eq_true'] at h139
      refine LJ_skip rfl rfl ?_
      refine LJ_skip rfl rfl ?_
      refine LJ_skip rfl rfl ?_
      refine LJ_skip rfl rfl ?_
      refine LJ_y rfl rfl (YJ_pickT rfl rfl) ?_
      refine LJ_y rfl rfl (YJ_move rfl) ?_
      refine LJ_skip rfl rfl ?_
      refine LJ_skip rfl rfl ?_
      refine LJ_skip rfl rfl ?_
      refine LJ_y rfl rfl (YJ_pickT rfl rfl) ?_
      refine LJ_y rfl rfl (YJ_move rfl) ?_
      refine LJ_skip rfl rfl ?_
      refine LJ_skip rfl rfl ?_
      refine LJ_skip rfl rfl ?_
      refine LJ_y rfl rfl (YJ_pickT rfl rfl) ?_
      refine LJ_nil ?_
      refine QJ_then ?_
      refine CJ_condT rfl ?_
      refine CJ_seq ?_
      refine CJ_reg ?_
      refine LJ_y rfl rfl (YJ_assign rfl) ?_
      refine LJ_nil ?_
      refine QJ_then ?_
      refine CJ_ret ?_
      refine QJ_then_ret ?_
      refine QJ_in_ret ?_
      refine QJ_then_ret ?_
      refine QJ_finM (.inl rfl) [D0] rfl (μ' := []) (μr := [_, _, _, _, _, _, _]) (φ' := []) (res_tmp rfl rfl) (permI [] rfl) (fun _ h => nomatch h) ?_
      exact ⟨congrArg Value.bool (by rw [he]; unfold rEnd rGhost hasV; (try simp only [← ptAt_def, sgn_pos]); first | (simp [h26, h35, h133, h139]; done) | grind), rfl, rfl⟩
     ·simp only [decide_eq_true_eq, Bool.not_eq_false'] at h139
      refine LJ_y rfl rfl (YJ_loadL rfl tyi_28 m5 rfl) ?_
      refine LJ_y rfl rfl (YJ_fieldOwn rfl fld_42_1 rfl) ?_
      refine LJ_y rfl rfl (YJ_loadL rfl tyi_3 m7 rfl) ?_
      refine LJ_call0 rfl rfl rfl rfl rfl (real_c (h := h) (pts := pts) (tris := tris)) (fun r h => .tail _ h) ?_
      refine LJ_y rfl rfl (YJ_pickF rfl rfl) ?_
      refine LJ_y rfl rfl (YJ_move rfl) ?_
      refine LJ_boolC (fun h145 => ?_) (fun h145 => ?_)
      ·simp only [decide_eq_true_eq] at h145
       refine LJ_skip rfl rfl ?_
       refine LJ_skip rfl rfl ?_
       refine LJ_skip rfl rfl ?_
       refine LJ_y rfl rfl (YJ_pickT rfl rfl) ?_
       refine LJ_y rfl rfl (YJ_move rfl) ?_
       refine LJ_skip rfl rfl ?_
       refine LJ_skip rfl rfl ?_
       refine LJ_skip rfl rfl ?_
       refine LJ_y rfl rfl (YJ_pickT rfl rfl) ?_
       refine LJ_nil ?_
       refine QJ_then ?_
       refine CJ_condT rfl ?_
       refine CJ_seq ?_
       refine CJ_reg ?_
       refine LJ_y rfl rfl (YJ_assign rfl) ?_
       refine LJ_nil ?_
       refine QJ_then ?_
       refine CJ_ret ?_
       refine QJ_then_ret ?_
       refine QJ_in_ret ?_
       refine QJ_then_ret ?_
       refine QJ_finM (.inl rfl) [D0] rfl (μ' := []) (μr := [_, _, _, _, _, _, _]) (φ' := []) (res_tmp rfl rfl) (permI [] rfl) (fun _ h => nomatch h) ?_
       exact ⟨congrArg Value.bool (by rw [he]; unfold rEnd rGhost hasV; (try simp only [← ptAt_def, sgn_pos]); first | (simp [h26, h35, h133, h139, h145]; done) | grind), rfl, rfl⟩
      ·simp only [decide_eq_false_iff_not] at h145
       refine LJ_y rfl rfl (YJ_fieldOwn rfl fld_42_2 rfl) ?_
       refine LJ_y rfl rfl (YJ_loadL rfl tyi_3 m7 rfl) ?_
       refine LJ_y rfl rfl (YJ_bin rfl rfl rfl) ?_
       refine LJ_y rfl rfl (YJ_pickF rfl rfl) ?_
       refine LJ_y rfl rfl (YJ_move rfl) ?_
       refine LJ_boolC (fun h150 => ?_) (fun h150 => ?_)
       ·simp only [decide_eq_false_iff_not, Bool.not_eq_true'] at h150
        refine LJ_skip rfl rfl ?_
        refine LJ_skip rfl rfl ?_
        refine LJ_skip rfl rfl ?_
        refine LJ_y rfl rfl (YJ_pickT rfl rfl) ?_
        refine LJ_nil ?_
        refine QJ_then ?_
        refine CJ_condT rfl ?_
        refine CJ_seq ?_
        refine CJ_reg ?_
        refine LJ_y rfl rfl (YJ_assign rfl) ?_
        refine LJ_nil ?_
        refine QJ_then ?_
        refine CJ_ret ?_
        refine QJ_then_ret ?_
        refine QJ_in_ret ?_
        refine QJ_then_ret ?_
        refine QJ_finM (.inl rfl) [D0] rfl (μ' := []) (μr := [_, _, _, _, _, _, _]) (φ' := []) (res_tmp rfl rfl) (permI [] rfl) (fun _ h => nomatch h) ?_
        exact ⟨congrArg Value.bool (by rw [he]; unfold rEnd rGhost hasV; (try simp only [← ptAt_def, sgn_pos]); first | (simp [h26, h35, h133, h139, h145, h150]; done) | grind), rfl, rfl⟩
       ·simp only [decide_eq_true_eq, Bool.not_eq_false'] at h150
        refine LJ_y rfl rfl (YJ_fieldOwn rfl fld_42_3 rfl) ?_
        refine LJ_y rfl rfl (YJ_loadL rfl tyi_3 m7 rfl) ?_
        refine LJ_y rfl rfl (YJ_bin rfl rfl rfl) ?_
        refine LJ_y rfl rfl (YJ_pickF rfl rfl) ?_
        refine LJ_nil ?_
        refine QJ_then ?_
        refine CJ_cond rfl (fun h154 => ?_) (fun h154 => ?_)
        ·simp only [decide_eq_false_iff_not, Bool.not_eq_true'] at h154
         refine CJ_seq ?_
         refine CJ_reg ?_
         refine LJ_y rfl rfl (YJ_assign rfl) ?_
         refine LJ_nil ?_
         refine QJ_then ?_
         refine CJ_ret ?_
         refine QJ_then_ret ?_
         refine QJ_in_ret ?_
         refine QJ_then_ret ?_
         refine QJ_finM (.inl rfl) [D0] rfl (μ' := []) (μr := [_, _, _, _, _, _, _]) (φ' := []) (res_tmp rfl rfl) (permI [] rfl) (fun _ h => nomatch h) ?_
         exact ⟨congrArg Value.bool (by rw [he]; unfold rEnd rGhost hasV; (try simp only [← ptAt_def, sgn_pos]); first | (simp [h26, h35, h133, h139, h145, h150, h154]; done) | grind), rfl, rfl⟩
        ·simp only [decide_eq_true_eq, Bool.not_eq_false'] at h154
         refine CJ_skip ?_
         refine QJ_then ?_
         refine CJ_seq ?_
         refine CJ_seq ?_
         refine CJ_reg ?_
         refine LJ_y rfl rfl (YJ_move rfl) ?_
         refine LJ_nil ?_
         refine QJ_then ?_
         refine CJ_block ?_
         refine CJ_loopN 4 ?_
         refine CN_succ ?_
         refine CJ_seq ?_
         refine CJ_reg ?_
         refine LJ_y rfl rfl (YJ_bin rfl rfl rfl) ?_
         refine LJ_nil ?_
         refine QJ_then ?_
         refine CJ_seq ?_
         refine CJ_condT rfl ?_
         refine CJ_skip ?_
         refine QJ_then ?_
         refine CJ_seq ?_
         refine CJ_block ?_
         refine CJ_seq ?_
         refine CJ_reg ?_
         refine LJ_y rfl rfl (YJ_move rfl) ?_
         refine LJ_y rfl rfl (YJ_assign rfl) ?_
         refine LJ_nil ?_
         refine QJ_then ?_
         refine CJ_seq ?_
         refine CJ_reg ?_
         refine LJ_y rfl rfl (YJ_move rfl) ?_
         refine LJ_y rfl rfl (YJ_fieldOwn rfl fld_37_0 rfl) ?_
         refine LJ_y rfl rfl (YJ_ixArr rfl rfl arrt_34 (by omega) (by omega) rfl) ?_
         refine LJ_y rfl rfl (YJ_loadL rfl tyi_3 m6 rfl) ?_
         refine LJ_y rfl rfl (YJ_bin rfl rfl rfl) ?_
         refine LJ_nil ?_
         refine QJ_then ?_
         refine CJ_cond rfl (fun h162 => ?_) (fun h162 => ?_)
         ·simp only [decide_eq_true_eq] at h162
          obtain ⟨hg1, hg2⟩ := (hG t (List.mem_of_getElem? ht)).1 h162
          have hpa := hP (t.v1).toNat (by omega)
          have hpb := hP (t.v2).toNat (by omega)
          refine CJ_seq ?_
          refine CJ_regD mix (by kernel_rfl) (fun _ _ _ _ _ h => h) _ _ (fun _ h => h) (fun _ h => h) ?_
          refine AJ_y 0 rfl (by kernel_rfl) (by kernel_rfl) rfl rfl (YJ_move rfl) ?_
          refine AJ_y 1 rfl (by kernel_rfl) (by kernel_rfl) rfl rfl (YJ_bin rfl rfl (iop_add (by omega))) ?_
          refine AJ_y 2 rfl (by kernel_rfl) (by kernel_rfl) rfl rfl (YJ_rem rfl rfl (by first | decide | omega)) ?_
          refine AJ_val (v := .int .i64 1) (rfl) ?_
          refine AJ_y 3 rfl (by kernel_rfl) (by kernel_rfl) rfl rfl (YJ_fieldOwn rfl fld_37_0 rfl) ?_
          refine AJ_y 4 rfl (by kernel_rfl) (by kernel_rfl) rfl rfl (YJ_ixArr rfl rfl arrt_34 (by omega) (by omega) rfl) ?_
          refine AJ_y 5 rfl (by kernel_rfl) (by kernel_rfl) rfl rfl (YJ_loadL rfl tyi_3 m6 rfl) ?_
          refine AJ_y 6 rfl (by kernel_rfl) (by kernel_rfl) rfl rfl (YJ_move rfl) ?_
          refine AJ_y 7 rfl (by kernel_rfl) (by kernel_rfl) rfl rfl (YJ_bin rfl rfl (iop_add (by omega))) ?_
          refine AJ_y 8 rfl (by kernel_rfl) (by kernel_rfl) rfl rfl (YJ_rem rfl rfl (by first | decide | omega)) ?_
          refine AJ_val (v := .int .i64 2) (rfl) ?_
          refine AJ_y 9 rfl (by kernel_rfl) (by kernel_rfl) rfl rfl (YJ_fieldOwn rfl fld_37_0 rfl) ?_
          refine AJ_y 10 rfl (by kernel_rfl) (by kernel_rfl) rfl rfl (YJ_ixArr rfl rfl arrt_34 (by omega) (by omega) rfl) ?_
          refine AJ_y 11 rfl (by kernel_rfl) (by kernel_rfl) rfl rfl (YJ_loadL rfl tyi_3 m6 rfl) ?_
          refine AJ_y 12 rfl (by kernel_rfl) (by kernel_rfl) rfl rfl (YJ_assign rfl) ?_
          refine AJ_y 13 rfl (by kernel_rfl) (by kernel_rfl) rfl rfl (YJ_assign rfl) ?_
          refine AJ_done (by kernel_rfl) ?_
          refine QJ_then ?_
          refine CJ_seq ?_
          refine CJ_regD mix (by kernel_rfl) (fun _ _ _ _ _ h => h) _ _ (fun _ h => h) (fun _ h => h) ?_
          refine AJ_y 0 rfl (by kernel_rfl) (by kernel_rfl) rfl rfl (YJ_loadL rfl tyi_28 m5 rfl) ?_
          refine AJ_y 1 rfl (by kernel_rfl) (by kernel_rfl) rfl rfl (YJ_nilCheck rfl) ?_
          refine AJ_y 2 rfl (by kernel_rfl) (by kernel_rfl) rfl rfl (YJ_fieldOwn rfl fld_57_0 rfl) ?_
          refine AJ_y 3 rfl (by kernel_rfl) (by kernel_rfl) rfl rfl (YJ_loadFactP (A := some ⟨B, 0, none⟩) (j := 0) rfl rfl tyi_26 m1 rfl) ?_
          refine AJ_y 4 rfl (by kernel_rfl) (by kernel_rfl) rfl rfl (YJ_move rfl) ?_
          refine AJ_y 5 rfl (by kernel_rfl) (by kernel_rfl) rfl rfl (YJ_ixFact rfl rfl elt_26 m2 (by decide) (by omega) (by omega) (by omega)) ?_
          refine AJ_y 6 rfl (by kernel_rfl) (by kernel_rfl) rfl rfl (YJ_loadFactN (vs := [_, _]) (xs := ptCells pts) rfl tyi_23 m2 (ptCells_get (i := (t.v1).toNat) (by omega)) rfl) ?_
          refine AJ_y 7 rfl (by kernel_rfl) (by kernel_rfl) rfl rfl (YJ_loadL rfl tyi_28 m5 rfl) ?_
          refine AJ_y 8 rfl (by kernel_rfl) (by kernel_rfl) rfl rfl (YJ_nilCheck rfl) ?_
          refine AJ_y 9 rfl (by kernel_rfl) (by kernel_rfl) rfl rfl (YJ_fieldOwn rfl fld_57_0 rfl) ?_
          refine AJ_y 10 rfl (by kernel_rfl) (by kernel_rfl) rfl rfl (YJ_loadFactP (A := some ⟨B, 0, none⟩) (j := 0) rfl rfl tyi_26 m1 rfl) ?_
          refine AJ_y 11 rfl (by kernel_rfl) (by kernel_rfl) rfl rfl (YJ_move rfl) ?_
          refine AJ_y 12 rfl (by kernel_rfl) (by kernel_rfl) rfl rfl (YJ_ixFact rfl rfl elt_26 m2 (by decide) (by omega) (by omega) (by omega)) ?_
          refine AJ_y 13 rfl (by kernel_rfl) (by kernel_rfl) rfl rfl (YJ_loadFactN (vs := [_, _]) (xs := ptCells pts) rfl tyi_23 m2 (ptCells_get (i := (t.v2).toNat) (by omega)) rfl) ?_
          refine AJ_y 14 rfl (by kernel_rfl) (by kernel_rfl) rfl rfl (YJ_loadN (vs := [_, _]) rfl tyi_23 m4 rfl rfl) ?_
          refine AJ_call0 15 rfl (by kernel_rfl) rfl rfl rfl rfl rfl (orient_c hpa hpb hp) (AllIn.sub (by first | exact trivial | exact And.intro (by repeat first | exact .head _ | apply List.Mem.tail) trivial | exact And.intro (by repeat first | exact .head _ | apply List.Mem.tail) (And.intro (by repeat first | exact .head _ | apply List.Mem.tail) trivial))) ?_
          refine AJ_y 16 rfl (by kernel_rfl) (by kernel_rfl) rfl rfl (YJ_bin rfl rfl rfl) ?_
          refine AJ_y 17 rfl (by kernel_rfl) (by kernel_rfl) rfl rfl (YJ_assign rfl) ?_
          refine AJ_done (by kernel_rfl) ?_
          refine QJ_then ?_
          refine CJ_ret ?_
          refine QJ_in_ret ?_
          refine QJ_then_ret ?_
          refine QJ_then_ret ?_
          refine QJ_in_ret ?_
          refine QJ_then_ret ?_
          refine QJ_in_ret ?_
          refine QJ_then_ret ?_
          refine QJ_finM (.inl rfl) [D0] rfl (μ' := []) (μr := [_, _, _, _, _, _, _]) (φ' := []) (res_tmp rfl rfl) (permI [] rfl) (fun _ h => nomatch h) ?_
          exact ⟨congrArg Value.bool (by rw [he]; unfold rEnd rGhost hasV; (try simp only [← ptAt_def, sgn_pos]); first | (simp [h26, h35, h133, h139, h145, h150, h154, h162]; done) | grind), rfl, rfl⟩
         ·simp only [decide_eq_false_iff_not] at h162
          have hv0 : ¬ t.v0 = -1 := h162
          refine CJ_skip ?_
          refine QJ_in_normal ?_
          refine QJ_then ?_
          refine CJ_reg ?_
          refine LJ_y rfl rfl (YJ_bin rfl rfl (iop_add (by omega))) ?_
          refine LJ_y rfl rfl (YJ_move rfl) ?_
          refine LJ_nil ?_
          refine QJ_thenN ?_
          refine CN_succ ?_
          refine CJ_seq ?_
          refine CJ_reg ?_
          refine LJ_y rfl rfl (YJ_bin rfl rfl rfl) ?_
          refine LJ_nil ?_
          refine QJ_then ?_
          refine CJ_seq ?_
          refine CJ_condT rfl ?_
          refine CJ_skip ?_
          refine QJ_then ?_
          refine CJ_seq ?_
          refine CJ_block ?_
          refine CJ_seq ?_
          refine CJ_reg ?_
          refine LJ_y rfl rfl (YJ_move rfl) ?_
          refine LJ_y rfl rfl (YJ_assign rfl) ?_
          refine LJ_nil ?_
          refine QJ_then ?_
          refine CJ_seq ?_
          refine CJ_reg ?_
          refine LJ_y rfl rfl (YJ_move rfl) ?_
          refine LJ_y rfl rfl (YJ_fieldOwn rfl fld_37_0 rfl) ?_
          refine LJ_y rfl rfl (YJ_ixArr rfl rfl arrt_34 (by omega) (by omega) rfl) ?_
          refine LJ_y rfl rfl (YJ_loadL rfl tyi_3 m6 rfl) ?_
          refine LJ_y rfl rfl (YJ_bin rfl rfl rfl) ?_
          refine LJ_nil ?_
          refine QJ_then ?_
          refine CJ_cond rfl (fun h162 => ?_) (fun h162 => ?_)
          ·simp only [decide_eq_true_eq] at h162
           obtain ⟨hg1, hg2⟩ := (hG t (List.mem_of_getElem? ht)).2.1 h162
           have hpa := hP (t.v2).toNat (by omega)
           have hpb := hP (t.v0).toNat (by omega)
           refine CJ_seq ?_
           refine CJ_regD mix (by kernel_rfl) (fun _ _ _ _ _ h => h) _ _ (fun _ h => h) (fun _ h => h) ?_
           refine AJ_y 0 rfl (by kernel_rfl) (by kernel_rfl) rfl rfl (YJ_move rfl) ?_
           refine AJ_y 1 rfl (by kernel_rfl) (by kernel_rfl) rfl rfl (YJ_bin rfl rfl (iop_add (by omega))) ?_
           refine AJ_y 2 rfl (by kernel_rfl) (by kernel_rfl) rfl rfl (YJ_rem rfl rfl (by first | decide | omega)) ?_
           refine AJ_val (v := .int .i64 2) (rfl) ?_
           refine AJ_y 3 rfl (by kernel_rfl) (by kernel_rfl) rfl rfl (YJ_fieldOwn rfl fld_37_0 rfl) ?_
           refine AJ_y 4 rfl (by kernel_rfl) (by kernel_rfl) rfl rfl (YJ_ixArr rfl rfl arrt_34 (by omega) (by omega) rfl) ?_
           refine AJ_y 5 rfl (by kernel_rfl) (by kernel_rfl) rfl rfl (YJ_loadL rfl tyi_3 m6 rfl) ?_
           refine AJ_y 6 rfl (by kernel_rfl) (by kernel_rfl) rfl rfl (YJ_move rfl) ?_
           refine AJ_y 7 rfl (by kernel_rfl) (by kernel_rfl) rfl rfl (YJ_bin rfl rfl (iop_add (by omega))) ?_
           refine AJ_y 8 rfl (by kernel_rfl) (by kernel_rfl) rfl rfl (YJ_rem rfl rfl (by first | decide | omega)) ?_
           refine AJ_val (v := .int .i64 0) (rfl) ?_
           refine AJ_y 9 rfl (by kernel_rfl) (by kernel_rfl) rfl rfl (YJ_fieldOwn rfl fld_37_0 rfl) ?_
           refine AJ_y 10 rfl (by kernel_rfl) (by kernel_rfl) rfl rfl (YJ_ixArr rfl rfl arrt_34 (by omega) (by omega) rfl) ?_
           refine AJ_y 11 rfl (by kernel_rfl) (by kernel_rfl) rfl rfl (YJ_loadL rfl tyi_3 m6 rfl) ?_
           refine AJ_y 12 rfl (by kernel_rfl) (by kernel_rfl) rfl rfl (YJ_assign rfl) ?_
           refine AJ_y 13 rfl (by kernel_rfl) (by kernel_rfl) rfl rfl (YJ_assign rfl) ?_
           refine AJ_done (by kernel_rfl) ?_
           refine QJ_then ?_
           refine CJ_seq ?_
           refine CJ_regD mix (by kernel_rfl) (fun _ _ _ _ _ h => h) _ _ (fun _ h => h) (fun _ h => h) ?_
           refine AJ_y 0 rfl (by kernel_rfl) (by kernel_rfl) rfl rfl (YJ_loadL rfl tyi_28 m5 rfl) ?_
           refine AJ_y 1 rfl (by kernel_rfl) (by kernel_rfl) rfl rfl (YJ_nilCheck rfl) ?_
           refine AJ_y 2 rfl (by kernel_rfl) (by kernel_rfl) rfl rfl (YJ_fieldOwn rfl fld_57_0 rfl) ?_
           refine AJ_y 3 rfl (by kernel_rfl) (by kernel_rfl) rfl rfl (YJ_loadFactP (A := some ⟨B, 0, none⟩) (j := 0) rfl rfl tyi_26 m1 rfl) ?_
           refine AJ_y 4 rfl (by kernel_rfl) (by kernel_rfl) rfl rfl (YJ_move rfl) ?_
           refine AJ_y 5 rfl (by kernel_rfl) (by kernel_rfl) rfl rfl (YJ_ixFact rfl rfl elt_26 m2 (by decide) (by omega) (by omega) (by omega)) ?_
           refine AJ_y 6 rfl (by kernel_rfl) (by kernel_rfl) rfl rfl (YJ_loadFactN (vs := [_, _]) (xs := ptCells pts) rfl tyi_23 m2 (ptCells_get (i := (t.v2).toNat) (by omega)) rfl) ?_
           refine AJ_y 7 rfl (by kernel_rfl) (by kernel_rfl) rfl rfl (YJ_loadL rfl tyi_28 m5 rfl) ?_
           refine AJ_y 8 rfl (by kernel_rfl) (by kernel_rfl) rfl rfl (YJ_nilCheck rfl) ?_
           refine AJ_y 9 rfl (by kernel_rfl) (by kernel_rfl) rfl rfl (YJ_fieldOwn rfl fld_57_0 rfl) ?_
           refine AJ_y 10 rfl (by kernel_rfl) (by kernel_rfl) rfl rfl (YJ_loadFactP (A := some ⟨B, 0, none⟩) (j := 0) rfl rfl tyi_26 m1 rfl) ?_
           refine AJ_y 11 rfl (by kernel_rfl) (by kernel_rfl) rfl rfl (YJ_move rfl) ?_
           refine AJ_y 12 rfl (by kernel_rfl) (by kernel_rfl) rfl rfl (YJ_ixFact rfl rfl elt_26 m2 (by decide) (by omega) (by omega) (by omega)) ?_
           refine AJ_y 13 rfl (by kernel_rfl) (by kernel_rfl) rfl rfl (YJ_loadFactN (vs := [_, _]) (xs := ptCells pts) rfl tyi_23 m2 (ptCells_get (i := (t.v0).toNat) (by omega)) rfl) ?_
           refine AJ_y 14 rfl (by kernel_rfl) (by kernel_rfl) rfl rfl (YJ_loadN (vs := [_, _]) rfl tyi_23 m4 rfl rfl) ?_
           refine AJ_call0 15 rfl (by kernel_rfl) rfl rfl rfl rfl rfl (orient_c hpa hpb hp) (AllIn.sub (by first | exact trivial | exact And.intro (by repeat first | exact .head _ | apply List.Mem.tail) trivial | exact And.intro (by repeat first | exact .head _ | apply List.Mem.tail) (And.intro (by repeat first | exact .head _ | apply List.Mem.tail) trivial))) ?_
           refine AJ_y 16 rfl (by kernel_rfl) (by kernel_rfl) rfl rfl (YJ_bin rfl rfl rfl) ?_
           refine AJ_y 17 rfl (by kernel_rfl) (by kernel_rfl) rfl rfl (YJ_assign rfl) ?_
           refine AJ_done (by kernel_rfl) ?_
           refine QJ_then ?_
           refine CJ_ret ?_
           refine QJ_in_ret ?_
           refine QJ_then_ret ?_
           refine QJ_then_ret ?_
           refine QJ_in_ret ?_
           refine QJ_then_ret ?_
           refine QJ_in_ret ?_
           refine QJ_then_ret ?_
           refine QJ_finM (.inl rfl) [D0] rfl (μ' := []) (μr := [_, _, _, _, _, _, _]) (φ' := []) (res_tmp rfl rfl) (permI [] rfl) (fun _ h => nomatch h) ?_
           exact ⟨congrArg Value.bool (by rw [he]; unfold rEnd rGhost hasV; (try simp only [← ptAt_def, sgn_pos]); first | (simp [h26, h35, h133, h139, h145, h150, h154, h162, hv0]; done) | grind), rfl, rfl⟩
          ·simp only [decide_eq_false_iff_not] at h162
           have hv1 : ¬ t.v1 = -1 := h162
           refine CJ_skip ?_
           refine QJ_in_normal ?_
           refine QJ_then ?_
           refine CJ_reg ?_
           refine LJ_y rfl rfl (YJ_bin rfl rfl (iop_add (by omega))) ?_
           refine LJ_y rfl rfl (YJ_move rfl) ?_
           refine LJ_nil ?_
           refine QJ_thenN ?_
           refine CN_succ ?_
           refine CJ_seq ?_
           refine CJ_reg ?_
           refine LJ_y rfl rfl (YJ_bin rfl rfl rfl) ?_
           refine LJ_nil ?_
           refine QJ_then ?_
           refine CJ_seq ?_
           refine CJ_condT rfl ?_
           refine CJ_skip ?_
           refine QJ_then ?_
           refine CJ_seq ?_
           refine CJ_block ?_
           refine CJ_seq ?_
           refine CJ_reg ?_
           refine LJ_y rfl rfl (YJ_move rfl) ?_
           refine LJ_y rfl rfl (YJ_assign rfl) ?_
           refine LJ_nil ?_
           refine QJ_then ?_
           refine CJ_seq ?_
           refine CJ_reg ?_
           refine LJ_y rfl rfl (YJ_move rfl) ?_
           refine LJ_y rfl rfl (YJ_fieldOwn rfl fld_37_0 rfl) ?_
           refine LJ_y rfl rfl (YJ_ixArr rfl rfl arrt_34 (by omega) (by omega) rfl) ?_
           refine LJ_y rfl rfl (YJ_loadL rfl tyi_3 m6 rfl) ?_
           refine LJ_y rfl rfl (YJ_bin rfl rfl rfl) ?_
           refine LJ_nil ?_
           refine QJ_then ?_
           refine CJ_cond rfl (fun h162 => ?_) (fun h162 => ?_)
           ·simp only [decide_eq_true_eq] at h162
            obtain ⟨hg1, hg2⟩ := (hG t (List.mem_of_getElem? ht)).2.2 h162
            have hpa := hP (t.v0).toNat (by omega)
            have hpb := hP (t.v1).toNat (by omega)
            refine CJ_seq ?_
            refine CJ_regD mix (by kernel_rfl) (fun _ _ _ _ _ h => h) _ _ (fun _ h => h) (fun _ h => h) ?_
            refine AJ_y 0 rfl (by kernel_rfl) (by kernel_rfl) rfl rfl (YJ_move rfl) ?_
            refine AJ_y 1 rfl (by kernel_rfl) (by kernel_rfl) rfl rfl (YJ_bin rfl rfl (iop_add (by omega))) ?_
            refine AJ_y 2 rfl (by kernel_rfl) (by kernel_rfl) rfl rfl (YJ_rem rfl rfl (by first | decide | omega)) ?_
            refine AJ_val (v := .int .i64 0) (rfl) ?_
            refine AJ_y 3 rfl (by kernel_rfl) (by kernel_rfl) rfl rfl (YJ_fieldOwn rfl fld_37_0 rfl) ?_
            refine AJ_y 4 rfl (by kernel_rfl) (by kernel_rfl) rfl rfl (YJ_ixArr rfl rfl arrt_34 (by omega) (by omega) rfl) ?_
            refine AJ_y 5 rfl (by kernel_rfl) (by kernel_rfl) rfl rfl (YJ_loadL rfl tyi_3 m6 rfl) ?_
            refine AJ_y 6 rfl (by kernel_rfl) (by kernel_rfl) rfl rfl (YJ_move rfl) ?_
            refine AJ_y 7 rfl (by kernel_rfl) (by kernel_rfl) rfl rfl (YJ_bin rfl rfl (iop_add (by omega))) ?_
            refine AJ_y 8 rfl (by kernel_rfl) (by kernel_rfl) rfl rfl (YJ_rem rfl rfl (by first | decide | omega)) ?_
            refine AJ_val (v := .int .i64 1) (rfl) ?_
            refine AJ_y 9 rfl (by kernel_rfl) (by kernel_rfl) rfl rfl (YJ_fieldOwn rfl fld_37_0 rfl) ?_
            refine AJ_y 10 rfl (by kernel_rfl) (by kernel_rfl) rfl rfl (YJ_ixArr rfl rfl arrt_34 (by omega) (by omega) rfl) ?_
            refine AJ_y 11 rfl (by kernel_rfl) (by kernel_rfl) rfl rfl (YJ_loadL rfl tyi_3 m6 rfl) ?_
            refine AJ_y 12 rfl (by kernel_rfl) (by kernel_rfl) rfl rfl (YJ_assign rfl) ?_
            refine AJ_y 13 rfl (by kernel_rfl) (by kernel_rfl) rfl rfl (YJ_assign rfl) ?_
            refine AJ_done (by kernel_rfl) ?_
            refine QJ_then ?_
            refine CJ_seq ?_
            refine CJ_regD mix (by kernel_rfl) (fun _ _ _ _ _ h => h) _ _ (fun _ h => h) (fun _ h => h) ?_
            refine AJ_y 0 rfl (by kernel_rfl) (by kernel_rfl) rfl rfl (YJ_loadL rfl tyi_28 m5 rfl) ?_
            refine AJ_y 1 rfl (by kernel_rfl) (by kernel_rfl) rfl rfl (YJ_nilCheck rfl) ?_
            refine AJ_y 2 rfl (by kernel_rfl) (by kernel_rfl) rfl rfl (YJ_fieldOwn rfl fld_57_0 rfl) ?_
            refine AJ_y 3 rfl (by kernel_rfl) (by kernel_rfl) rfl rfl (YJ_loadFactP (A := some ⟨B, 0, none⟩) (j := 0) rfl rfl tyi_26 m1 rfl) ?_
            refine AJ_y 4 rfl (by kernel_rfl) (by kernel_rfl) rfl rfl (YJ_move rfl) ?_
            refine AJ_y 5 rfl (by kernel_rfl) (by kernel_rfl) rfl rfl (YJ_ixFact rfl rfl elt_26 m2 (by decide) (by omega) (by omega) (by omega)) ?_
            refine AJ_y 6 rfl (by kernel_rfl) (by kernel_rfl) rfl rfl (YJ_loadFactN (vs := [_, _]) (xs := ptCells pts) rfl tyi_23 m2 (ptCells_get (i := (t.v0).toNat) (by omega)) rfl) ?_
            refine AJ_y 7 rfl (by kernel_rfl) (by kernel_rfl) rfl rfl (YJ_loadL rfl tyi_28 m5 rfl) ?_
            refine AJ_y 8 rfl (by kernel_rfl) (by kernel_rfl) rfl rfl (YJ_nilCheck rfl) ?_
            refine AJ_y 9 rfl (by kernel_rfl) (by kernel_rfl) rfl rfl (YJ_fieldOwn rfl fld_57_0 rfl) ?_
            refine AJ_y 10 rfl (by kernel_rfl) (by kernel_rfl) rfl rfl (YJ_loadFactP (A := some ⟨B, 0, none⟩) (j := 0) rfl rfl tyi_26 m1 rfl) ?_
            refine AJ_y 11 rfl (by kernel_rfl) (by kernel_rfl) rfl rfl (YJ_move rfl) ?_
            refine AJ_y 12 rfl (by kernel_rfl) (by kernel_rfl) rfl rfl (YJ_ixFact rfl rfl elt_26 m2 (by decide) (by omega) (by omega) (by omega)) ?_
            refine AJ_y 13 rfl (by kernel_rfl) (by kernel_rfl) rfl rfl (YJ_loadFactN (vs := [_, _]) (xs := ptCells pts) rfl tyi_23 m2 (ptCells_get (i := (t.v1).toNat) (by omega)) rfl) ?_
            refine AJ_y 14 rfl (by kernel_rfl) (by kernel_rfl) rfl rfl (YJ_loadN (vs := [_, _]) rfl tyi_23 m4 rfl rfl) ?_
            refine AJ_call0 15 rfl (by kernel_rfl) rfl rfl rfl rfl rfl (orient_c hpa hpb hp) (AllIn.sub (by first | exact trivial | exact And.intro (by repeat first | exact .head _ | apply List.Mem.tail) trivial | exact And.intro (by repeat first | exact .head _ | apply List.Mem.tail) (And.intro (by repeat first | exact .head _ | apply List.Mem.tail) trivial))) ?_
            refine AJ_y 16 rfl (by kernel_rfl) (by kernel_rfl) rfl rfl (YJ_bin rfl rfl rfl) ?_
            refine AJ_y 17 rfl (by kernel_rfl) (by kernel_rfl) rfl rfl (YJ_assign rfl) ?_
            refine AJ_done (by kernel_rfl) ?_
            refine QJ_then ?_
            refine CJ_ret ?_
            refine QJ_in_ret ?_
            refine QJ_then_ret ?_
            refine QJ_then_ret ?_
            refine QJ_in_ret ?_
            refine QJ_then_ret ?_
            refine QJ_in_ret ?_
            refine QJ_then_ret ?_
            refine QJ_finM (.inl rfl) [D0] rfl (μ' := []) (μr := [_, _, _, _, _, _, _]) (φ' := []) (res_tmp rfl rfl) (permI [] rfl) (fun _ h => nomatch h) ?_
            exact ⟨congrArg Value.bool (by rw [he]; unfold rEnd rGhost hasV; (try simp only [← ptAt_def, sgn_pos]); first | (simp [h26, h35, h133, h139, h145, h150, h154, h162, hv0, hv1]; done) | grind), rfl, rfl⟩
           ·simp only [decide_eq_false_iff_not] at h162
            have hv2 : ¬ t.v2 = -1 := h162
            refine CJ_skip ?_
            refine QJ_in_normal ?_
            refine QJ_then ?_
            refine CJ_reg ?_
            refine LJ_y rfl rfl (YJ_bin rfl rfl (iop_add (by omega))) ?_
            refine LJ_y rfl rfl (YJ_move rfl) ?_
            refine LJ_nil ?_
            refine QJ_thenN ?_
            refine CN_succ ?_
            refine CJ_seq ?_
            refine CJ_reg ?_
            refine LJ_y rfl rfl (YJ_bin rfl rfl rfl) ?_
            refine LJ_nil ?_
            refine QJ_then ?_
            refine CJ_seq ?_
            refine CJ_condF rfl ?_
            refine CJ_exit ?_
            refine QJ_then_exit ?_
            refine QJ_then_exit ?_
            refine QJ_in_exit ?_
            refine QJ_then ?_
            refine CJ_seq ?_
            refine CJ_reg ?_
            refine LJ_y rfl rfl (YJ_assign rfl) ?_
            refine LJ_nil ?_
            refine QJ_then ?_
            refine CJ_ret ?_
            refine QJ_in_ret ?_
            refine QJ_then_ret ?_
            refine QJ_finM (.inl rfl) [D0] rfl (μ' := []) (μr := [_, _, _, _, _, _, _]) (φ' := []) (res_tmp rfl rfl) (permI [] rfl) (fun _ h => nomatch h) ?_
            exact ⟨congrArg Value.bool (by rw [he]; unfold rEnd rGhost hasV; (try simp only [← ptAt_def, sgn_pos]); first | (simp [h26, h35, h133, h139, h145, h150, h154, hv0, hv1, hv2]; done) | grind), rfl, rfl⟩
    ·simp only [Bool.not_eq_false'] at h133
     refine CJ_seq ?_
     refine CJ_reg ?_
     refine LJ_y rfl rfl (YJ_loadL rfl tyi_28 m5 rfl) ?_
     refine LJ_y rfl rfl (YJ_fieldOwn rfl fld_42_1 rfl) ?_
     refine LJ_y rfl rfl (YJ_loadL rfl tyi_3 m7 rfl) ?_
     refine LJ_call0 rfl rfl rfl rfl rfl (real_c (h := h) (pts := pts) (tris := tris)) (fun r h => .tail _ h) ?_
     refine LJ_y rfl rfl (YJ_not rfl) ?_
     refine LJ_y rfl rfl (YJ_assign rfl) ?_
     refine LJ_nil ?_
     refine QJ_then ?_
     refine CJ_cond rfl (fun h193 => ?_) (fun h193 => ?_)
     ·simp only [decide_eq_false_iff_not, Bool.not_eq_true'] at h193
      refine CJ_seq ?_
      refine CJ_reg ?_
      refine LJ_y rfl rfl (YJ_assign rfl) ?_
      refine LJ_nil ?_
      refine QJ_then ?_
      refine CJ_ret ?_
      refine QJ_in_ret ?_
      refine QJ_then_ret ?_
      refine QJ_finM (.inl rfl) [D0] rfl (μ' := []) (μr := [_, _, _, _, _, _, _]) (φ' := []) (res_tmp rfl rfl) (permI [] rfl) (fun _ h => nomatch h) ?_
      exact ⟨congrArg Value.bool (by rw [he]; unfold rEnd rGhost hasV; (try simp only [← ptAt_def, sgn_pos]); first | (simp [h26, h35, h133, h193]; done) | grind), rfl, rfl⟩
     ·simp only [decide_eq_true_eq, Bool.not_eq_false'] at h193
      obtain ⟨⟨z0, w0_⟩, ⟨z1, w1_⟩, ⟨z2, w2_⟩⟩ := hT t (List.mem_of_getElem? ht) ((real_iff (by omega) ht).1 h193)
      have hq0 := hP (t.v0).toNat (by omega)
      have hq1 := hP (t.v1).toNat (by omega)
      have hq2 := hP (t.v2).toNat (by omega)
      refine CJ_seq ?_
      refine CJ_reg ?_
      refine LJ_y rfl rfl (YJ_loadL rfl tyi_3 m2 rfl) ?_
      refine LJ_y rfl rfl (YJ_bin rfl rfl rfl) ?_
      refine LJ_y rfl rfl (YJ_assign rfl) ?_
      refine LJ_nil ?_
      refine QJ_then ?_
      refine CJ_cond rfl (fun h199 => ?_) (fun h199 => ?_)
      ·simp only [decide_eq_true_eq] at h199
       refine CJ_seq ?_
       refine CJ_reg ?_
       refine LJ_y rfl rfl (YJ_fieldOwn rfl fld_42_0 rfl) ?_
       refine LJ_y rfl rfl (YJ_loadL rfl tyi_3 m7 rfl) ?_
       refine LJ_y rfl rfl (YJ_bin rfl rfl rfl) ?_
       refine LJ_y rfl rfl (YJ_move rfl) ?_
       refine LJ_boolC (fun h205 => ?_) (fun h205 => ?_)
       ·simp only [decide_eq_true_eq] at h205
        refine LJ_y rfl rfl (YJ_fieldOwn rfl fld_42_2 rfl) ?_
        refine LJ_y rfl rfl (YJ_loadL rfl tyi_3 m7 rfl) ?_
        refine LJ_y rfl rfl (YJ_loadL rfl tyi_3 m2 rfl) ?_
        refine LJ_y rfl rfl (YJ_bin rfl rfl rfl) ?_
        refine LJ_y rfl rfl (YJ_pickT rfl rfl) ?_
        refine LJ_y rfl rfl (YJ_move rfl) ?_
        refine LJ_boolC (fun h211 => ?_) (fun h211 => ?_)
        ·simp only [decide_eq_true_eq] at h211
         refine LJ_y rfl rfl (YJ_fieldOwn rfl fld_42_3 rfl) ?_
         refine LJ_y rfl rfl (YJ_loadL rfl tyi_3 m7 rfl) ?_
         refine LJ_y rfl rfl (YJ_bin rfl rfl rfl) ?_
         refine LJ_y rfl rfl (YJ_pickT rfl rfl) ?_
         refine LJ_y rfl rfl (YJ_move rfl) ?_
         refine LJ_boolC (fun h216 => ?_) (fun h216 => ?_)
         ·simp only [decide_eq_true_eq] at h216
          refine LJ_y rfl rfl (YJ_move rfl) ?_
          refine LJ_y rfl rfl (YJ_loadL rfl tyi_3 m2 rfl) ?_
          refine LJ_call1 6 rfl rfl rfl rfl rfl rfl (has_c) (fun _ h => nomatch h) ?_
          show LJ _ _ _ _ _ (_ :: _ :: _ :: _ :: _ :: _ :: _ :: _ :: _) _
          refine LJ_y rfl rfl (YJ_pickT rfl rfl) ?_
          refine LJ_y rfl rfl (YJ_assign rfl) ?_
          refine LJ_nil ?_
          refine QJ_then ?_
          refine CJ_ret ?_
          refine QJ_in_ret ?_
          refine QJ_then_ret ?_
          refine QJ_finM (.inl rfl) [D0] rfl (μ' := []) (μr := [_, _, _, _, _, _, _]) (φ' := []) (res_tmp rfl rfl) (permI [] rfl) (fun _ h => nomatch h) ?_
          exact ⟨congrArg Value.bool (by rw [he]; unfold rEnd rGhost hasV; (try simp only [← ptAt_def, sgn_pos]); first | (simp [h26, h35, h133, h193, h199, h205, h211, h216]; done) | grind), rfl, rfl⟩
         ·simp only [decide_eq_false_iff_not] at h216
          refine LJ_skip rfl rfl ?_
          refine LJ_skip rfl rfl ?_
          refine LJ_skip rfl rfl ?_
          refine LJ_y rfl rfl (YJ_pickF rfl rfl) ?_
          refine LJ_y rfl rfl (YJ_assign rfl) ?_
          refine LJ_nil ?_
          refine QJ_then ?_
          refine CJ_ret ?_
          refine QJ_in_ret ?_
          refine QJ_then_ret ?_
          refine QJ_finM (.inl rfl) [D0] rfl (μ' := []) (μr := [_, _, _, _, _, _, _]) (φ' := []) (res_tmp rfl rfl) (permI [] rfl) (fun _ h => nomatch h) ?_
          exact ⟨congrArg Value.bool (by rw [he]; unfold rEnd rGhost hasV; (try simp only [← ptAt_def, sgn_pos]); first | (simp [h26, h35, h133, h193, h199, h205, h211, h216]; done) | grind), rfl, rfl⟩
        ·simp only [decide_eq_false_iff_not] at h211
         refine LJ_skip rfl rfl ?_
         refine LJ_skip rfl rfl ?_
         refine LJ_skip rfl rfl ?_
         refine LJ_y rfl rfl (YJ_pickF rfl rfl) ?_
         refine LJ_y rfl rfl (YJ_move rfl) ?_
         refine LJ_skip rfl rfl ?_
         refine LJ_skip rfl rfl ?_
         refine LJ_skip rfl rfl ?_
         refine LJ_y rfl rfl (YJ_pickF rfl rfl) ?_
         refine LJ_y rfl rfl (YJ_assign rfl) ?_
         refine LJ_nil ?_
         refine QJ_then ?_
         refine CJ_ret ?_
         refine QJ_in_ret ?_
         refine QJ_then_ret ?_
         refine QJ_finM (.inl rfl) [D0] rfl (μ' := []) (μr := [_, _, _, _, _, _, _]) (φ' := []) (res_tmp rfl rfl) (permI [] rfl) (fun _ h => nomatch h) ?_
         exact ⟨congrArg Value.bool (by rw [he]; unfold rEnd rGhost hasV; (try simp only [← ptAt_def, sgn_pos]); first | (simp [h26, h35, h133, h193, h199, h205, h211]; done) | grind), rfl, rfl⟩
       ·simp only [decide_eq_false_iff_not] at h205
        refine LJ_skip rfl rfl ?_
        refine LJ_skip rfl rfl ?_
        refine LJ_skip rfl rfl ?_
        refine LJ_skip rfl rfl ?_
        refine LJ_y rfl rfl (YJ_pickF rfl rfl) ?_
        refine LJ_y rfl rfl (YJ_move rfl) ?_
        refine LJ_skip rfl rfl ?_
        refine LJ_skip rfl rfl ?_
        refine LJ_skip rfl rfl ?_
        refine LJ_y rfl rfl (YJ_pickF rfl rfl) ?_
        refine LJ_y rfl rfl (YJ_move rfl) ?_
        refine LJ_skip rfl rfl ?_
        refine LJ_skip rfl rfl ?_
        refine LJ_skip rfl rfl ?_
        refine LJ_y rfl rfl (YJ_pickF rfl rfl) ?_
        refine LJ_y rfl rfl (YJ_assign rfl) ?_
        refine LJ_nil ?_
        refine QJ_then ?_
        refine CJ_ret ?_
        refine QJ_in_ret ?_
        refine QJ_then_ret ?_
        refine QJ_finM (.inl rfl) [D0] rfl (μ' := []) (μr := [_, _, _, _, _, _, _]) (φ' := []) (res_tmp rfl rfl) (permI [] rfl) (fun _ h => nomatch h) ?_
        exact ⟨congrArg Value.bool (by rw [he]; unfold rEnd rGhost hasV; (try simp only [← ptAt_def, sgn_pos]); first | (simp [h26, h35, h133, h193, h199, h205]; done) | grind), rfl, rfl⟩
      ·simp only [decide_eq_false_iff_not] at h199
       refine CJ_seq ?_
       refine CJ_reg ?_
       refine LJ_y rfl rfl (YJ_loadN (vs := [_, _]) rfl tyi_46 m3 rfl rfl) ?_
       refine LJ_y rfl rfl (YJ_build1 (cs := [_, _]) lay_46 rfl rfl rfl) ?_
       refine LJ_y rfl rfl (YJ_eqs rfl rfl (fun _ => eqs_neq_46 ..)) ?_
       refine LJ_y rfl rfl (YJ_assign rfl) ?_
       refine LJ_nil ?_
       refine QJ_then ?_
       refine CJ_cond rfl (fun h221 => ?_) (fun h221 => ?_)
       ·simp only [decide_eq_false_iff_not, Bool.not_eq_true', Bool.and_eq_false_iff] at h221
        refine CJ_seq ?_
        refine CJ_reg ?_
        refine LJ_y rfl rfl (YJ_fieldOwn rfl fld_42_0 rfl) ?_
        refine LJ_y rfl rfl (YJ_loadL rfl tyi_3 m7 rfl) ?_
        refine LJ_y rfl rfl (YJ_bin rfl rfl rfl) ?_
        refine LJ_y rfl rfl (YJ_move rfl) ?_
        refine LJ_boolC (fun h228 => ?_) (fun h228 => ?_)
        ·simp only [decide_eq_true_eq] at h228
         refine LJ_y rfl rfl (YJ_fieldOwn rfl fld_42_2 rfl) ?_
         refine LJ_y rfl rfl (YJ_loadL rfl tyi_3 m7 rfl) ?_
         refine LJ_y rfl rfl (YJ_fieldOwn rfl fld_42_3 rfl) ?_
         refine LJ_y rfl rfl (YJ_loadL rfl tyi_3 m7 rfl) ?_
         refine LJ_y rfl rfl (YJ_build1 (cs := [_, _]) lay_46 rfl rfl rfl) ?_
         refine LJ_y rfl rfl (YJ_loadN (vs := [_, _]) rfl tyi_46 m3 rfl rfl) ?_
         refine LJ_y rfl rfl (YJ_eqs rfl rfl (fun _ => eqs_eql_46 ..)) ?_
         refine LJ_y rfl rfl (YJ_pickT rfl rfl) ?_
         refine LJ_y rfl rfl (YJ_move rfl) ?_
         refine LJ_boolC (fun h237 => ?_) (fun h237 => ?_)
         ·simp only [decide_eq_true_eq, Bool.and_eq_true] at h237
          refine LJ_y rfl rfl (YJ_move rfl) ?_
          refine LJ_y rfl rfl (YJ_fieldOwn rfl fld_42_2 rfl) ?_
          refine LJ_y rfl rfl (YJ_loadL rfl tyi_3 m7 rfl) ?_
          refine LJ_call1 6 rfl rfl rfl rfl rfl rfl (has_c) (fun _ h => nomatch h) ?_
          show LJ _ _ _ _ _ (_ :: _ :: _ :: _ :: _ :: _ :: _ :: _ :: _) _
          refine LJ_y rfl rfl (YJ_pickT rfl rfl) ?_
          refine LJ_y rfl rfl (YJ_move rfl) ?_
          refine LJ_boolC (fun h243 => ?_) (fun h243 => ?_)
          ·simp only [decide_eq_true_eq] at h243
           unfold hasV at h243
           refine LJ_y rfl rfl (YJ_move rfl) ?_
           refine LJ_y rfl rfl (YJ_fieldOwn rfl fld_42_3 rfl) ?_
           refine LJ_y rfl rfl (YJ_loadL rfl tyi_3 m7 rfl) ?_
           refine LJ_call1 6 rfl rfl rfl rfl rfl rfl (has_c) (fun _ h => nomatch h) ?_
           show LJ _ _ _ _ _ (_ :: _ :: _ :: _ :: _ :: _ :: _ :: _ :: _) _
           refine LJ_y rfl rfl (YJ_pickT rfl rfl) ?_
           refine LJ_y rfl rfl (YJ_assign rfl) ?_
           refine LJ_nil ?_
           refine QJ_then ?_
           refine CJ_ret ?_
           refine QJ_in_ret ?_
           refine QJ_then_ret ?_
           refine QJ_finM (.inl rfl) [D0] rfl (μ' := []) (μr := [_, _, _, _, _, _, _]) (φ' := []) (res_tmp rfl rfl) (permI [] rfl) (fun _ h => nomatch h) ?_
           exact ⟨congrArg Value.bool (by rw [he]; unfold rEnd rGhost hasV; (try simp only [← ptAt_def, sgn_pos]); first | (simp [h26, h35, h133, h193, h199, h221, h228, h237, h243]; done) | grind), rfl, rfl⟩
          ·simp only [decide_eq_false_iff_not] at h243
           unfold hasV at h243
           refine LJ_skip rfl rfl ?_
           refine LJ_skip rfl rfl ?_
           refine LJ_skip rfl rfl ?_
           refine LJ_skip rfl rfl ?_
           refine LJ_y rfl rfl (YJ_pickF rfl rfl) ?_
           refine LJ_y rfl rfl (YJ_assign rfl) ?_
           refine LJ_nil ?_
           refine QJ_then ?_
           refine CJ_ret ?_
           refine QJ_in_ret ?_
           refine QJ_then_ret ?_
           refine QJ_finM (.inl rfl) [D0] rfl (μ' := []) (μr := [_, _, _, _, _, _, _]) (φ' := []) (res_tmp rfl rfl) (permI [] rfl) (fun _ h => nomatch h) ?_
           exact ⟨congrArg Value.bool (by rw [he]; unfold rEnd rGhost hasV; (try simp only [← ptAt_def, sgn_pos]); first | (simp [h26, h35, h133, h193, h199, h221, h228, h237, h243]; done) | grind), rfl, rfl⟩
         ·simp only [decide_eq_false_iff_not, Bool.and_eq_false_iff] at h237
          refine LJ_skip rfl rfl ?_
          refine LJ_skip rfl rfl ?_
          refine LJ_skip rfl rfl ?_
          refine LJ_skip rfl rfl ?_
          refine LJ_y rfl rfl (YJ_pickF rfl rfl) ?_
          refine LJ_y rfl rfl (YJ_move rfl) ?_
          refine LJ_skip rfl rfl ?_
          refine LJ_skip rfl rfl ?_
          refine LJ_skip rfl rfl ?_
          refine LJ_skip rfl rfl ?_
          refine LJ_y rfl rfl (YJ_pickF rfl rfl) ?_
          refine LJ_y rfl rfl (YJ_assign rfl) ?_
          refine LJ_nil ?_
          refine QJ_then ?_
          refine CJ_ret ?_
          refine QJ_in_ret ?_
          refine QJ_then_ret ?_
          refine QJ_finM (.inl rfl) [D0] rfl (μ' := []) (μr := [_, _, _, _, _, _, _]) (φ' := []) (res_tmp rfl rfl) (permI [] rfl) (fun _ h => nomatch h) ?_
          exact ⟨congrArg Value.bool (by rw [he]; unfold rEnd rGhost hasV; (try simp only [← ptAt_def, sgn_pos]); first | (simp [h26, h35, h133, h193, h199, h221, h228, h237]; done) | grind), rfl, rfl⟩
        ·simp only [decide_eq_false_iff_not] at h228
         refine LJ_skip rfl rfl ?_
         refine LJ_skip rfl rfl ?_
         refine LJ_skip rfl rfl ?_
         refine LJ_skip rfl rfl ?_
         refine LJ_skip rfl rfl ?_
         refine LJ_skip rfl rfl ?_
         refine LJ_skip rfl rfl ?_
         refine LJ_y rfl rfl (YJ_pickF rfl rfl) ?_
         refine LJ_y rfl rfl (YJ_move rfl) ?_
         refine LJ_skip rfl rfl ?_
         refine LJ_skip rfl rfl ?_
         refine LJ_skip rfl rfl ?_
         refine LJ_skip rfl rfl ?_
         refine LJ_y rfl rfl (YJ_pickF rfl rfl) ?_
         refine LJ_y rfl rfl (YJ_move rfl) ?_
         refine LJ_skip rfl rfl ?_
         refine LJ_skip rfl rfl ?_
         refine LJ_skip rfl rfl ?_
         refine LJ_skip rfl rfl ?_
         refine LJ_y rfl rfl (YJ_pickF rfl rfl) ?_
         refine LJ_y rfl rfl (YJ_assign rfl) ?_
         refine LJ_nil ?_
         refine QJ_then ?_
         refine CJ_ret ?_
         refine QJ_in_ret ?_
         refine QJ_then_ret ?_
         refine QJ_finM (.inl rfl) [D0] rfl (μ' := []) (μr := [_, _, _, _, _, _, _]) (φ' := []) (res_tmp rfl rfl) (permI [] rfl) (fun _ h => nomatch h) ?_
         exact ⟨congrArg Value.bool (by rw [he]; unfold rEnd rGhost hasV; (try simp only [← ptAt_def, sgn_pos]); first | (simp [h26, h35, h133, h193, h199, h221, h228]; done) | grind), rfl, rfl⟩
       ·simp only [decide_eq_true_eq, Bool.not_eq_false', Bool.and_eq_true] at h221
        refine CJ_skip ?_
        refine QJ_in_normal ?_
        refine QJ_then ?_
        refine CJ_seq ?_
        refine CJ_regD mix (by kernel_rfl) (fun _ _ _ _ _ h => h) _ _ (fun _ h => h) (fun _ h => h) ?_
        refine AJ_y 0 rfl (by kernel_rfl) (by kernel_rfl) rfl rfl (YJ_fieldOwn rfl fld_42_0 rfl) ?_
        refine AJ_y 1 rfl (by kernel_rfl) (by kernel_rfl) rfl rfl (YJ_loadL rfl tyi_3 m7 rfl) ?_
        refine AJ_y 2 rfl (by kernel_rfl) (by kernel_rfl) rfl rfl (YJ_bin rfl rfl rfl) ?_
        refine AJ_y 3 rfl (by kernel_rfl) (by kernel_rfl) rfl rfl (YJ_move rfl) ?_
        refine AJ_boolC (fun h252 => ?_) (fun h252 => ?_)
        ·simp only [decide_eq_true_eq] at h252
         refine AJ_y 4 rfl (by kernel_rfl) (by kernel_rfl) rfl rfl (YJ_fieldOwn rfl fld_42_2 rfl) ?_
         refine AJ_y 5 rfl (by kernel_rfl) (by kernel_rfl) rfl rfl (YJ_loadL rfl tyi_3 m7 rfl) ?_
         refine AJ_y 6 rfl (by kernel_rfl) (by kernel_rfl) rfl rfl (YJ_bin rfl rfl rfl) ?_
         refine AJ_y 7 rfl (by kernel_rfl) (by kernel_rfl) rfl rfl (YJ_pickT rfl rfl) ?_
         refine AJ_y 8 rfl (by kernel_rfl) (by kernel_rfl) rfl rfl (YJ_move rfl) ?_
         refine AJ_boolC (fun h257 => ?_) (fun h257 => ?_)
         ·simp only [decide_eq_true_eq] at h257
          refine AJ_y 9 rfl (by kernel_rfl) (by kernel_rfl) rfl rfl (YJ_fieldOwn rfl fld_42_3 rfl) ?_
          refine AJ_y 10 rfl (by kernel_rfl) (by kernel_rfl) rfl rfl (YJ_loadL rfl tyi_3 m7 rfl) ?_
          refine AJ_y 11 rfl (by kernel_rfl) (by kernel_rfl) rfl rfl (YJ_bin rfl rfl rfl) ?_
          refine AJ_y 12 rfl (by kernel_rfl) (by kernel_rfl) rfl rfl (YJ_pickT rfl rfl) ?_
          refine AJ_y 13 rfl (by kernel_rfl) (by kernel_rfl) rfl rfl (YJ_move rfl) ?_
          refine AJ_boolC (fun h262 => ?_) (fun h262 => ?_)
          ·simp only [decide_eq_true_eq] at h262
           refine AJ_y 14 rfl (by kernel_rfl) (by kernel_rfl) rfl rfl (YJ_loadL rfl tyi_28 m5 rfl) ?_
           refine AJ_y 15 rfl (by kernel_rfl) (by kernel_rfl) rfl rfl (YJ_nilCheck rfl) ?_
           refine AJ_y 16 rfl (by kernel_rfl) (by kernel_rfl) rfl rfl (YJ_fieldOwn rfl fld_57_0 rfl) ?_
           refine AJ_y 17 rfl (by kernel_rfl) (by kernel_rfl) rfl rfl (YJ_loadFactP (A := some ⟨B, 0, none⟩) (j := 0) rfl rfl tyi_26 m1 rfl) ?_
           refine AJ_y 18 rfl (by kernel_rfl) (by kernel_rfl) rfl rfl (YJ_fieldOwn rfl fld_37_0 rfl) ?_
           refine AJ_y 19 rfl (by kernel_rfl) (by kernel_rfl) rfl rfl (YJ_ixArr rfl rfl arrt_34 (by omega) (by omega) rfl) ?_
           refine AJ_y 20 rfl (by kernel_rfl) (by kernel_rfl) rfl rfl (YJ_loadL rfl tyi_3 m6 rfl) ?_
           refine AJ_y 21 rfl (by kernel_rfl) (by kernel_rfl) rfl rfl (YJ_ixFact rfl rfl elt_26 m2 (by decide) (by omega) (by omega) (by omega)) ?_
           refine AJ_y 22 rfl (by kernel_rfl) (by kernel_rfl) rfl rfl (YJ_loadFactN (vs := [_, _]) (xs := ptCells pts) rfl tyi_23 m2 (ptCells_get (i := (t.v0).toNat) (by omega)) rfl) ?_
           refine AJ_y 23 rfl (by kernel_rfl) (by kernel_rfl) rfl rfl (YJ_loadL rfl tyi_28 m5 rfl) ?_
           refine AJ_y 24 rfl (by kernel_rfl) (by kernel_rfl) rfl rfl (YJ_nilCheck rfl) ?_
           refine AJ_y 25 rfl (by kernel_rfl) (by kernel_rfl) rfl rfl (YJ_fieldOwn rfl fld_57_0 rfl) ?_
           refine AJ_y 26 rfl (by kernel_rfl) (by kernel_rfl) rfl rfl (YJ_loadFactP (A := some ⟨B, 0, none⟩) (j := 0) rfl rfl tyi_26 m1 rfl) ?_
           refine AJ_y 27 rfl (by kernel_rfl) (by kernel_rfl) rfl rfl (YJ_fieldOwn rfl fld_37_0 rfl) ?_
           refine AJ_y 28 rfl (by kernel_rfl) (by kernel_rfl) rfl rfl (YJ_ixArr rfl rfl arrt_34 (by omega) (by omega) rfl) ?_
           refine AJ_y 29 rfl (by kernel_rfl) (by kernel_rfl) rfl rfl (YJ_loadL rfl tyi_3 m6 rfl) ?_
           refine AJ_y 30 rfl (by kernel_rfl) (by kernel_rfl) rfl rfl (YJ_ixFact rfl rfl elt_26 m2 (by decide) (by omega) (by omega) (by omega)) ?_
           refine AJ_y 31 rfl (by kernel_rfl) (by kernel_rfl) rfl rfl (YJ_loadFactN (vs := [_, _]) (xs := ptCells pts) rfl tyi_23 m2 (ptCells_get (i := (t.v1).toNat) (by omega)) rfl) ?_
           refine AJ_y 32 rfl (by kernel_rfl) (by kernel_rfl) rfl rfl (YJ_loadN (vs := [_, _]) rfl tyi_23 m4 rfl rfl) ?_
           refine AJ_call0 33 rfl (by kernel_rfl) rfl rfl rfl rfl rfl (orient_c hq0 hq1 hp) (AllIn.sub (by first | exact trivial | exact And.intro (by repeat first | exact .head _ | apply List.Mem.tail) trivial | exact And.intro (by repeat first | exact .head _ | apply List.Mem.tail) (And.intro (by repeat first | exact .head _ | apply List.Mem.tail) trivial))) ?_
           refine AJ_y 34 rfl (by kernel_rfl) (by kernel_rfl) rfl rfl (YJ_bin rfl rfl rfl) ?_
           refine AJ_y 35 rfl (by kernel_rfl) (by kernel_rfl) rfl rfl (YJ_pickT rfl rfl) ?_
           refine AJ_y 36 rfl (by kernel_rfl) (by kernel_rfl) rfl rfl (YJ_move rfl) ?_
           refine AJ_boolC (fun h285 => ?_) (fun h285 => ?_)
           ·simp only [decide_eq_true_eq] at h285
            try simp only [← ptAt_def, sgn_pos] at h285
            refine AJ_y 37 rfl (by kernel_rfl) (by kernel_rfl) rfl rfl (YJ_loadL rfl tyi_28 m5 rfl) ?_
            refine AJ_y 38 rfl (by kernel_rfl) (by kernel_rfl) rfl rfl (YJ_nilCheck rfl) ?_
            refine AJ_y 39 rfl (by kernel_rfl) (by kernel_rfl) rfl rfl (YJ_fieldOwn rfl fld_57_0 rfl) ?_
            refine AJ_y 40 rfl (by kernel_rfl) (by kernel_rfl) rfl rfl (YJ_loadFactP (A := some ⟨B, 0, none⟩) (j := 0) rfl rfl tyi_26 m1 rfl) ?_
            refine AJ_y 41 rfl (by kernel_rfl) (by kernel_rfl) rfl rfl (YJ_fieldOwn rfl fld_37_0 rfl) ?_
            refine AJ_y 42 rfl (by kernel_rfl) (by kernel_rfl) rfl rfl (YJ_ixArr rfl rfl arrt_34 (by omega) (by omega) rfl) ?_
            refine AJ_y 43 rfl (by kernel_rfl) (by kernel_rfl) rfl rfl (YJ_loadL rfl tyi_3 m6 rfl) ?_
            refine AJ_y 44 rfl (by kernel_rfl) (by kernel_rfl) rfl rfl (YJ_ixFact rfl rfl elt_26 m2 (by decide) (by omega) (by omega) (by omega)) ?_
            refine AJ_y 45 rfl (by kernel_rfl) (by kernel_rfl) rfl rfl (YJ_loadFactN (vs := [_, _]) (xs := ptCells pts) rfl tyi_23 m2 (ptCells_get (i := (t.v1).toNat) (by omega)) rfl) ?_
            refine AJ_y 46 rfl (by kernel_rfl) (by kernel_rfl) rfl rfl (YJ_loadL rfl tyi_28 m5 rfl) ?_
            refine AJ_y 47 rfl (by kernel_rfl) (by kernel_rfl) rfl rfl (YJ_nilCheck rfl) ?_
            refine AJ_y 48 rfl (by kernel_rfl) (by kernel_rfl) rfl rfl (YJ_fieldOwn rfl fld_57_0 rfl) ?_
            refine AJ_y 49 rfl (by kernel_rfl) (by kernel_rfl) rfl rfl (YJ_loadFactP (A := some ⟨B, 0, none⟩) (j := 0) rfl rfl tyi_26 m1 rfl) ?_
            refine AJ_y 50 rfl (by kernel_rfl) (by kernel_rfl) rfl rfl (YJ_fieldOwn rfl fld_37_0 rfl) ?_
            refine AJ_y 51 rfl (by kernel_rfl) (by kernel_rfl) rfl rfl (YJ_ixArr rfl rfl arrt_34 (by omega) (by omega) rfl) ?_
            refine AJ_y 52 rfl (by kernel_rfl) (by kernel_rfl) rfl rfl (YJ_loadL rfl tyi_3 m6 rfl) ?_
            refine AJ_y 53 rfl (by kernel_rfl) (by kernel_rfl) rfl rfl (YJ_ixFact rfl rfl elt_26 m2 (by decide) (by omega) (by omega) (by omega)) ?_
            refine AJ_y 54 rfl (by kernel_rfl) (by kernel_rfl) rfl rfl (YJ_loadFactN (vs := [_, _]) (xs := ptCells pts) rfl tyi_23 m2 (ptCells_get (i := (t.v2).toNat) (by omega)) rfl) ?_
            refine AJ_y 55 rfl (by kernel_rfl) (by kernel_rfl) rfl rfl (YJ_loadN (vs := [_, _]) rfl tyi_23 m4 rfl rfl) ?_
            refine AJ_call0 56 rfl (by kernel_rfl) rfl rfl rfl rfl rfl (orient_c hq1 hq2 hp) (AllIn.sub (by first | exact trivial | exact And.intro (by repeat first | exact .head _ | apply List.Mem.tail) trivial | exact And.intro (by repeat first | exact .head _ | apply List.Mem.tail) (And.intro (by repeat first | exact .head _ | apply List.Mem.tail) trivial))) ?_
            refine AJ_y 57 rfl (by kernel_rfl) (by kernel_rfl) rfl rfl (YJ_bin rfl rfl rfl) ?_
            refine AJ_y 58 rfl (by kernel_rfl) (by kernel_rfl) rfl rfl (YJ_pickT rfl rfl) ?_
            refine AJ_y 59 rfl (by kernel_rfl) (by kernel_rfl) rfl rfl (YJ_move rfl) ?_
            refine AJ_boolC (fun h308 => ?_) (fun h308 => ?_)
            ·simp only [decide_eq_true_eq] at h308
             try simp only [← ptAt_def, sgn_pos] at h308
             refine AJ_y 60 rfl (by kernel_rfl) (by kernel_rfl) rfl rfl (YJ_loadL rfl tyi_28 m5 rfl) ?_
             refine AJ_y 61 rfl (by kernel_rfl) (by kernel_rfl) rfl rfl (YJ_nilCheck rfl) ?_
             refine AJ_y 62 rfl (by kernel_rfl) (by kernel_rfl) rfl rfl (YJ_fieldOwn rfl fld_57_0 rfl) ?_
             refine AJ_y 63 rfl (by kernel_rfl) (by kernel_rfl) rfl rfl (YJ_loadFactP (A := some ⟨B, 0, none⟩) (j := 0) rfl rfl tyi_26 m1 rfl) ?_
             refine AJ_y 64 rfl (by kernel_rfl) (by kernel_rfl) rfl rfl (YJ_fieldOwn rfl fld_37_0 rfl) ?_
             refine AJ_y 65 rfl (by kernel_rfl) (by kernel_rfl) rfl rfl (YJ_ixArr rfl rfl arrt_34 (by omega) (by omega) rfl) ?_
             refine AJ_y 66 rfl (by kernel_rfl) (by kernel_rfl) rfl rfl (YJ_loadL rfl tyi_3 m6 rfl) ?_
             refine AJ_y 67 rfl (by kernel_rfl) (by kernel_rfl) rfl rfl (YJ_ixFact rfl rfl elt_26 m2 (by decide) (by omega) (by omega) (by omega)) ?_
             refine AJ_y 68 rfl (by kernel_rfl) (by kernel_rfl) rfl rfl (YJ_loadFactN (vs := [_, _]) (xs := ptCells pts) rfl tyi_23 m2 (ptCells_get (i := (t.v2).toNat) (by omega)) rfl) ?_
             refine AJ_y 69 rfl (by kernel_rfl) (by kernel_rfl) rfl rfl (YJ_loadL rfl tyi_28 m5 rfl) ?_
             refine AJ_y 70 rfl (by kernel_rfl) (by kernel_rfl) rfl rfl (YJ_nilCheck rfl) ?_
             refine AJ_y 71 rfl (by kernel_rfl) (by kernel_rfl) rfl rfl (YJ_fieldOwn rfl fld_57_0 rfl) ?_
             refine AJ_y 72 rfl (by kernel_rfl) (by kernel_rfl) rfl rfl (YJ_loadFactP (A := some ⟨B, 0, none⟩) (j := 0) rfl rfl tyi_26 m1 rfl) ?_
             refine AJ_y 73 rfl (by kernel_rfl) (by kernel_rfl) rfl rfl (YJ_fieldOwn rfl fld_37_0 rfl) ?_
             refine AJ_y 74 rfl (by kernel_rfl) (by kernel_rfl) rfl rfl (YJ_ixArr rfl rfl arrt_34 (by omega) (by omega) rfl) ?_
             refine AJ_y 75 rfl (by kernel_rfl) (by kernel_rfl) rfl rfl (YJ_loadL rfl tyi_3 m6 rfl) ?_
             refine AJ_y 76 rfl (by kernel_rfl) (by kernel_rfl) rfl rfl (YJ_ixFact rfl rfl elt_26 m2 (by decide) (by omega) (by omega) (by omega)) ?_
             refine AJ_y 77 rfl (by kernel_rfl) (by kernel_rfl) rfl rfl (YJ_loadFactN (vs := [_, _]) (xs := ptCells pts) rfl tyi_23 m2 (ptCells_get (i := (t.v0).toNat) (by omega)) rfl) ?_
             refine AJ_y 78 rfl (by kernel_rfl) (by kernel_rfl) rfl rfl (YJ_loadN (vs := [_, _]) rfl tyi_23 m4 rfl rfl) ?_
             refine AJ_call0 79 rfl (by kernel_rfl) rfl rfl rfl rfl rfl (orient_c hq2 hq0 hp) (AllIn.sub (by first | exact trivial | exact And.intro (by repeat first | exact .head _ | apply List.Mem.tail) trivial | exact And.intro (by repeat first | exact .head _ | apply List.Mem.tail) (And.intro (by repeat first | exact .head _ | apply List.Mem.tail) trivial))) ?_
             refine AJ_y 80 rfl (by kernel_rfl) (by kernel_rfl) rfl rfl (YJ_bin rfl rfl rfl) ?_
             refine AJ_y 81 rfl (by kernel_rfl) (by kernel_rfl) rfl rfl (YJ_pickT rfl rfl) ?_
             refine AJ_y 82 rfl (by kernel_rfl) (by kernel_rfl) rfl rfl (YJ_assign rfl) ?_
             refine AJ_done (by kernel_rfl) ?_
             refine QJ_then ?_
             refine CJ_ret ?_
             refine QJ_finM (.inl rfl) [D0] rfl (μ' := []) (μr := [_, _, _, _, _, _, _]) (φ' := []) (res_tmp rfl rfl) (permI [] rfl) (fun _ h => nomatch h) ?_
             exact ⟨congrArg Value.bool (by rw [he]; unfold rEnd rGhost hasV; (try simp only [← ptAt_def, sgn_pos]); first | (simp [h26, h35, h133, h193, h199, h221, h252, h257, h262, h285, h308]; done) | grind), rfl, rfl⟩
            ·simp only [decide_eq_false_iff_not] at h308
             try simp only [← ptAt_def, sgn_pos] at h308
             refine AJ_skip 60 rfl (by kernel_rfl) (by kernel_rfl) rfl rfl ?_
             refine AJ_skip 61 rfl (by kernel_rfl) (by kernel_rfl) rfl rfl ?_
             refine AJ_skip 62 rfl (by kernel_rfl) (by kernel_rfl) rfl rfl ?_
             refine AJ_skip 63 rfl (by kernel_rfl) (by kernel_rfl) rfl rfl ?_
             refine AJ_skip 64 rfl (by kernel_rfl) (by kernel_rfl) rfl rfl ?_
             refine AJ_skip 65 rfl (by kernel_rfl) (by kernel_rfl) rfl rfl ?_
             refine AJ_skip 66 rfl (by kernel_rfl) (by kernel_rfl) rfl rfl ?_
             refine AJ_skip 67 rfl (by kernel_rfl) (by kernel_rfl) rfl rfl ?_
             refine AJ_skip 68 rfl (by kernel_rfl) (by kernel_rfl) rfl rfl ?_
             refine AJ_skip 69 rfl (by kernel_rfl) (by kernel_rfl) rfl rfl ?_
             refine AJ_skip 70 rfl (by kernel_rfl) (by kernel_rfl) rfl rfl ?_
             refine AJ_skip 71 rfl (by kernel_rfl) (by kernel_rfl) rfl rfl ?_
             refine AJ_skip 72 rfl (by kernel_rfl) (by kernel_rfl) rfl rfl ?_
             refine AJ_skip 73 rfl (by kernel_rfl) (by kernel_rfl) rfl rfl ?_
             refine AJ_skip 74 rfl (by kernel_rfl) (by kernel_rfl) rfl rfl ?_
             refine AJ_skip 75 rfl (by kernel_rfl) (by kernel_rfl) rfl rfl ?_
             refine AJ_skip 76 rfl (by kernel_rfl) (by kernel_rfl) rfl rfl ?_
             refine AJ_skip 77 rfl (by kernel_rfl) (by kernel_rfl) rfl rfl ?_
             refine AJ_skip 78 rfl (by kernel_rfl) (by kernel_rfl) rfl rfl ?_
             refine AJ_skip 79 rfl (by kernel_rfl) (by kernel_rfl) rfl rfl ?_
             refine AJ_skip 80 rfl (by kernel_rfl) (by kernel_rfl) rfl rfl ?_
             refine AJ_y 81 rfl (by kernel_rfl) (by kernel_rfl) rfl rfl (YJ_pickF rfl rfl) ?_
             refine AJ_y 82 rfl (by kernel_rfl) (by kernel_rfl) rfl rfl (YJ_assign rfl) ?_
             refine AJ_done (by kernel_rfl) ?_
             refine QJ_then ?_
             refine CJ_ret ?_
             refine QJ_finM (.inl rfl) [D0] rfl (μ' := []) (μr := [_, _, _, _, _, _, _]) (φ' := []) (res_tmp rfl rfl) (permI [] rfl) (fun _ h => nomatch h) ?_
             exact ⟨congrArg Value.bool (by rw [he]; unfold rEnd rGhost hasV; (try simp only [← ptAt_def, sgn_pos]); first | (simp [h26, h35, h133, h193, h199, h221, h252, h257, h262, h285, h308]; done) | grind), rfl, rfl⟩
           ·simp only [decide_eq_false_iff_not] at h285
            try simp only [← ptAt_def, sgn_pos] at h285
            refine AJ_skip 37 rfl (by kernel_rfl) (by kernel_rfl) rfl rfl ?_
            refine AJ_skip 38 rfl (by kernel_rfl) (by kernel_rfl) rfl rfl ?_
            refine AJ_skip 39 rfl (by kernel_rfl) (by kernel_rfl) rfl rfl ?_
            refine AJ_skip 40 rfl (by kernel_rfl) (by kernel_rfl) rfl rfl ?_
            refine AJ_skip 41 rfl (by kernel_rfl) (by kernel_rfl) rfl rfl ?_
            refine AJ_skip 42 rfl (by kernel_rfl) (by kernel_rfl) rfl rfl ?_
            refine AJ_skip 43 rfl (by kernel_rfl) (by kernel_rfl) rfl rfl ?_
            refine AJ_skip 44 rfl (by kernel_rfl) (by kernel_rfl) rfl rfl ?_
            refine AJ_skip 45 rfl (by kernel_rfl) (by kernel_rfl) rfl rfl ?_
            refine AJ_skip 46 rfl (by kernel_rfl) (by kernel_rfl) rfl rfl ?_
            refine AJ_skip 47 rfl (by kernel_rfl) (by kernel_rfl) rfl rfl ?_
            refine AJ_skip 48 rfl (by kernel_rfl) (by kernel_rfl) rfl rfl ?_
            refine AJ_skip 49 rfl (by kernel_rfl) (by kernel_rfl) rfl rfl ?_
            refine AJ_skip 50 rfl (by kernel_rfl) (by kernel_rfl) rfl rfl ?_
            refine AJ_skip 51 rfl (by kernel_rfl) (by kernel_rfl) rfl rfl ?_
            refine AJ_skip 52 rfl (by kernel_rfl) (by kernel_rfl) rfl rfl ?_
            refine AJ_skip 53 rfl (by kernel_rfl) (by kernel_rfl) rfl rfl ?_
            refine AJ_skip 54 rfl (by kernel_rfl) (by kernel_rfl) rfl rfl ?_
            refine AJ_skip 55 rfl (by kernel_rfl) (by kernel_rfl) rfl rfl ?_
            refine AJ_skip 56 rfl (by kernel_rfl) (by kernel_rfl) rfl rfl ?_
            refine AJ_skip 57 rfl (by kernel_rfl) (by kernel_rfl) rfl rfl ?_
            refine AJ_y 58 rfl (by kernel_rfl) (by kernel_rfl) rfl rfl (YJ_pickF rfl rfl) ?_
            refine AJ_y 59 rfl (by kernel_rfl) (by kernel_rfl) rfl rfl (YJ_move rfl) ?_
            refine AJ_skip 60 rfl (by kernel_rfl) (by kernel_rfl) rfl rfl ?_
            refine AJ_skip 61 rfl (by kernel_rfl) (by kernel_rfl) rfl rfl ?_
            refine AJ_skip 62 rfl (by kernel_rfl) (by kernel_rfl) rfl rfl ?_
            refine AJ_skip 63 rfl (by kernel_rfl) (by kernel_rfl) rfl rfl ?_
            refine AJ_skip 64 rfl (by kernel_rfl) (by kernel_rfl) rfl rfl ?_
            refine AJ_skip 65 rfl (by kernel_rfl) (by kernel_rfl) rfl rfl ?_
            refine AJ_skip 66 rfl (by kernel_rfl) (by kernel_rfl) rfl rfl ?_
            refine AJ_skip 67 rfl (by kernel_rfl) (by kernel_rfl) rfl rfl ?_
            refine AJ_skip 68 rfl (by kernel_rfl) (by kernel_rfl) rfl rfl ?_
            refine AJ_skip 69 rfl (by kernel_rfl) (by kernel_rfl) rfl rfl ?_
            refine AJ_skip 70 rfl (by kernel_rfl) (by kernel_rfl) rfl rfl ?_
            refine AJ_skip 71 rfl (by kernel_rfl) (by kernel_rfl) rfl rfl ?_
            refine AJ_skip 72 rfl (by kernel_rfl) (by kernel_rfl) rfl rfl ?_
            refine AJ_skip 73 rfl (by kernel_rfl) (by kernel_rfl) rfl rfl ?_
            refine AJ_skip 74 rfl (by kernel_rfl) (by kernel_rfl) rfl rfl ?_
            refine AJ_skip 75 rfl (by kernel_rfl) (by kernel_rfl) rfl rfl ?_
            refine AJ_skip 76 rfl (by kernel_rfl) (by kernel_rfl) rfl rfl ?_
            refine AJ_skip 77 rfl (by kernel_rfl) (by kernel_rfl) rfl rfl ?_
            refine AJ_skip 78 rfl (by kernel_rfl) (by kernel_rfl) rfl rfl ?_
            refine AJ_skip 79 rfl (by kernel_rfl) (by kernel_rfl) rfl rfl ?_
            refine AJ_skip 80 rfl (by kernel_rfl) (by kernel_rfl) rfl rfl ?_
            refine AJ_y 81 rfl (by kernel_rfl) (by kernel_rfl) rfl rfl (YJ_pickF rfl rfl) ?_
            refine AJ_y 82 rfl (by kernel_rfl) (by kernel_rfl) rfl rfl (YJ_assign rfl) ?_
            refine AJ_done (by kernel_rfl) ?_
            refine QJ_then ?_
            refine CJ_ret ?_
            refine QJ_finM (.inl rfl) [D0] rfl (μ' := []) (μr := [_, _, _, _, _, _, _]) (φ' := []) (res_tmp rfl rfl) (permI [] rfl) (fun _ h => nomatch h) ?_
            exact ⟨congrArg Value.bool (by rw [he]; unfold rEnd rGhost hasV; (try simp only [← ptAt_def, sgn_pos]); first | (simp [h26, h35, h133, h193, h199, h221, h252, h257, h262, h285]; done) | grind), rfl, rfl⟩
          ·simp only [decide_eq_false_iff_not] at h262
           refine AJ_skip 14 rfl (by kernel_rfl) (by kernel_rfl) rfl rfl ?_
           refine AJ_skip 15 rfl (by kernel_rfl) (by kernel_rfl) rfl rfl ?_
           refine AJ_skip 16 rfl (by kernel_rfl) (by kernel_rfl) rfl rfl ?_
           refine AJ_skip 17 rfl (by kernel_rfl) (by kernel_rfl) rfl rfl ?_
           refine AJ_skip 18 rfl (by kernel_rfl) (by kernel_rfl) rfl rfl ?_
           refine AJ_skip 19 rfl (by kernel_rfl) (by kernel_rfl) rfl rfl ?_
           refine AJ_skip 20 rfl (by kernel_rfl) (by kernel_rfl) rfl rfl ?_
           refine AJ_skip 21 rfl (by kernel_rfl) (by kernel_rfl) rfl rfl ?_
           refine AJ_skip 22 rfl (by kernel_rfl) (by kernel_rfl) rfl rfl ?_
           refine AJ_skip 23 rfl (by kernel_rfl) (by kernel_rfl) rfl rfl ?_
           refine AJ_skip 24 rfl (by kernel_rfl) (by kernel_rfl) rfl rfl ?_
           refine AJ_skip 25 rfl (by kernel_rfl) (by kernel_rfl) rfl rfl ?_
           refine AJ_skip 26 rfl (by kernel_rfl) (by kernel_rfl) rfl rfl ?_
           refine AJ_skip 27 rfl (by kernel_rfl) (by kernel_rfl) rfl rfl ?_
           refine AJ_skip 28 rfl (by kernel_rfl) (by kernel_rfl) rfl rfl ?_
           refine AJ_skip 29 rfl (by kernel_rfl) (by kernel_rfl) rfl rfl ?_
           refine AJ_skip 30 rfl (by kernel_rfl) (by kernel_rfl) rfl rfl ?_
           refine AJ_skip 31 rfl (by kernel_rfl) (by kernel_rfl) rfl rfl ?_
           refine AJ_skip 32 rfl (by kernel_rfl) (by kernel_rfl) rfl rfl ?_
           refine AJ_skip 33 rfl (by kernel_rfl) (by kernel_rfl) rfl rfl ?_
           refine AJ_skip 34 rfl (by kernel_rfl) (by kernel_rfl) rfl rfl ?_
           refine AJ_y 35 rfl (by kernel_rfl) (by kernel_rfl) rfl rfl (YJ_pickF rfl rfl) ?_
           refine AJ_y 36 rfl (by kernel_rfl) (by kernel_rfl) rfl rfl (YJ_move rfl) ?_
           refine AJ_skip 37 rfl (by kernel_rfl) (by kernel_rfl) rfl rfl ?_
           refine AJ_skip 38 rfl (by kernel_rfl) (by kernel_rfl) rfl rfl ?_
           refine AJ_skip 39 rfl (by kernel_rfl) (by kernel_rfl) rfl rfl ?_
           refine AJ_skip 40 rfl (by kernel_rfl) (by kernel_rfl) rfl rfl ?_
           refine AJ_skip 41 rfl (by kernel_rfl) (by kernel_rfl) rfl rfl ?_
           refine AJ_skip 42 rfl (by kernel_rfl) (by kernel_rfl) rfl rfl ?_
           refine AJ_skip 43 rfl (by kernel_rfl) (by kernel_rfl) rfl rfl ?_
           refine AJ_skip 44 rfl (by kernel_rfl) (by kernel_rfl) rfl rfl ?_
           refine AJ_skip 45 rfl (by kernel_rfl) (by kernel_rfl) rfl rfl ?_
           refine AJ_skip 46 rfl (by kernel_rfl) (by kernel_rfl) rfl rfl ?_
           refine AJ_skip 47 rfl (by kernel_rfl) (by kernel_rfl) rfl rfl ?_
           refine AJ_skip 48 rfl (by kernel_rfl) (by kernel_rfl) rfl rfl ?_
           refine AJ_skip 49 rfl (by kernel_rfl) (by kernel_rfl) rfl rfl ?_
           refine AJ_skip 50 rfl (by kernel_rfl) (by kernel_rfl) rfl rfl ?_
           refine AJ_skip 51 rfl (by kernel_rfl) (by kernel_rfl) rfl rfl ?_
           refine AJ_skip 52 rfl (by kernel_rfl) (by kernel_rfl) rfl rfl ?_
           refine AJ_skip 53 rfl (by kernel_rfl) (by kernel_rfl) rfl rfl ?_
           refine AJ_skip 54 rfl (by kernel_rfl) (by kernel_rfl) rfl rfl ?_
           refine AJ_skip 55 rfl (by kernel_rfl) (by kernel_rfl) rfl rfl ?_
           refine AJ_skip 56 rfl (by kernel_rfl) (by kernel_rfl) rfl rfl ?_
           refine AJ_skip 57 rfl (by kernel_rfl) (by kernel_rfl) rfl rfl ?_
           refine AJ_y 58 rfl (by kernel_rfl) (by kernel_rfl) rfl rfl (YJ_pickF rfl rfl) ?_
           refine AJ_y 59 rfl (by kernel_rfl) (by kernel_rfl) rfl rfl (YJ_move rfl) ?_
           refine AJ_skip 60 rfl (by kernel_rfl) (by kernel_rfl) rfl rfl ?_
           refine AJ_skip 61 rfl (by kernel_rfl) (by kernel_rfl) rfl rfl ?_
           refine AJ_skip 62 rfl (by kernel_rfl) (by kernel_rfl) rfl rfl ?_
           refine AJ_skip 63 rfl (by kernel_rfl) (by kernel_rfl) rfl rfl ?_
           refine AJ_skip 64 rfl (by kernel_rfl) (by kernel_rfl) rfl rfl ?_
           refine AJ_skip 65 rfl (by kernel_rfl) (by kernel_rfl) rfl rfl ?_
           refine AJ_skip 66 rfl (by kernel_rfl) (by kernel_rfl) rfl rfl ?_
           refine AJ_skip 67 rfl (by kernel_rfl) (by kernel_rfl) rfl rfl ?_
           refine AJ_skip 68 rfl (by kernel_rfl) (by kernel_rfl) rfl rfl ?_
           refine AJ_skip 69 rfl (by kernel_rfl) (by kernel_rfl) rfl rfl ?_
           refine AJ_skip 70 rfl (by kernel_rfl) (by kernel_rfl) rfl rfl ?_
           refine AJ_skip 71 rfl (by kernel_rfl) (by kernel_rfl) rfl rfl ?_
           refine AJ_skip 72 rfl (by kernel_rfl) (by kernel_rfl) rfl rfl ?_
           refine AJ_skip 73 rfl (by kernel_rfl) (by kernel_rfl) rfl rfl ?_
           refine AJ_skip 74 rfl (by kernel_rfl) (by kernel_rfl) rfl rfl ?_
           refine AJ_skip 75 rfl (by kernel_rfl) (by kernel_rfl) rfl rfl ?_
           refine AJ_skip 76 rfl (by kernel_rfl) (by kernel_rfl) rfl rfl ?_
           refine AJ_skip 77 rfl (by kernel_rfl) (by kernel_rfl) rfl rfl ?_
           refine AJ_skip 78 rfl (by kernel_rfl) (by kernel_rfl) rfl rfl ?_
           refine AJ_skip 79 rfl (by kernel_rfl) (by kernel_rfl) rfl rfl ?_
           refine AJ_skip 80 rfl (by kernel_rfl) (by kernel_rfl) rfl rfl ?_
           refine AJ_y 81 rfl (by kernel_rfl) (by kernel_rfl) rfl rfl (YJ_pickF rfl rfl) ?_
           refine AJ_y 82 rfl (by kernel_rfl) (by kernel_rfl) rfl rfl (YJ_assign rfl) ?_
           refine AJ_done (by kernel_rfl) ?_
           refine QJ_then ?_
           refine CJ_ret ?_
           refine QJ_finM (.inl rfl) [D0] rfl (μ' := []) (μr := [_, _, _, _, _, _, _]) (φ' := []) (res_tmp rfl rfl) (permI [] rfl) (fun _ h => nomatch h) ?_
           exact ⟨congrArg Value.bool (by rw [he]; unfold rEnd rGhost hasV; (try simp only [← ptAt_def, sgn_pos]); first | (simp [h26, h35, h133, h193, h199, h221, h252, h257, h262]; done) | grind), rfl, rfl⟩
         ·simp only [decide_eq_false_iff_not] at h257
          refine AJ_skip 9 rfl (by kernel_rfl) (by kernel_rfl) rfl rfl ?_
          refine AJ_skip 10 rfl (by kernel_rfl) (by kernel_rfl) rfl rfl ?_
          refine AJ_skip 11 rfl (by kernel_rfl) (by kernel_rfl) rfl rfl ?_
          refine AJ_y 12 rfl (by kernel_rfl) (by kernel_rfl) rfl rfl (YJ_pickF rfl rfl) ?_
          refine AJ_y 13 rfl (by kernel_rfl) (by kernel_rfl) rfl rfl (YJ_move rfl) ?_
          refine AJ_skip 14 rfl (by kernel_rfl) (by kernel_rfl) rfl rfl ?_
          refine AJ_skip 15 rfl (by kernel_rfl) (by kernel_rfl) rfl rfl ?_
          refine AJ_skip 16 rfl (by kernel_rfl) (by kernel_rfl) rfl rfl ?_
          refine AJ_skip 17 rfl (by kernel_rfl) (by kernel_rfl) rfl rfl ?_
          refine AJ_skip 18 rfl (by kernel_rfl) (by kernel_rfl) rfl rfl ?_
          refine AJ_skip 19 rfl (by kernel_rfl) (by kernel_rfl) rfl rfl ?_
          refine AJ_skip 20 rfl (by kernel_rfl) (by kernel_rfl) rfl rfl ?_
          refine AJ_skip 21 rfl (by kernel_rfl) (by kernel_rfl) rfl rfl ?_
          refine AJ_skip 22 rfl (by kernel_rfl) (by kernel_rfl) rfl rfl ?_
          refine AJ_skip 23 rfl (by kernel_rfl) (by kernel_rfl) rfl rfl ?_
          refine AJ_skip 24 rfl (by kernel_rfl) (by kernel_rfl) rfl rfl ?_
          refine AJ_skip 25 rfl (by kernel_rfl) (by kernel_rfl) rfl rfl ?_
          refine AJ_skip 26 rfl (by kernel_rfl) (by kernel_rfl) rfl rfl ?_
          refine AJ_skip 27 rfl (by kernel_rfl) (by kernel_rfl) rfl rfl ?_
          refine AJ_skip 28 rfl (by kernel_rfl) (by kernel_rfl) rfl rfl ?_
          refine AJ_skip 29 rfl (by kernel_rfl) (by kernel_rfl) rfl rfl ?_
          refine AJ_skip 30 rfl (by kernel_rfl) (by kernel_rfl) rfl rfl ?_
          refine AJ_skip 31 rfl (by kernel_rfl) (by kernel_rfl) rfl rfl ?_
          refine AJ_skip 32 rfl (by kernel_rfl) (by kernel_rfl) rfl rfl ?_
          refine AJ_skip 33 rfl (by kernel_rfl) (by kernel_rfl) rfl rfl ?_
          refine AJ_skip 34 rfl (by kernel_rfl) (by kernel_rfl) rfl rfl ?_
          refine AJ_y 35 rfl (by kernel_rfl) (by kernel_rfl) rfl rfl (YJ_pickF rfl rfl) ?_
          refine AJ_y 36 rfl (by kernel_rfl) (by kernel_rfl) rfl rfl (YJ_move rfl) ?_
          refine AJ_skip 37 rfl (by kernel_rfl) (by kernel_rfl) rfl rfl ?_
          refine AJ_skip 38 rfl (by kernel_rfl) (by kernel_rfl) rfl rfl ?_
          refine AJ_skip 39 rfl (by kernel_rfl) (by kernel_rfl) rfl rfl ?_
          refine AJ_skip 40 rfl (by kernel_rfl) (by kernel_rfl) rfl rfl ?_
          refine AJ_skip 41 rfl (by kernel_rfl) (by kernel_rfl) rfl rfl ?_
          refine AJ_skip 42 rfl (by kernel_rfl) (by kernel_rfl) rfl rfl ?_
          refine AJ_skip 43 rfl (by kernel_rfl) (by kernel_rfl) rfl rfl ?_
          refine AJ_skip 44 rfl (by kernel_rfl) (by kernel_rfl) rfl rfl ?_
          refine AJ_skip 45 rfl (by kernel_rfl) (by kernel_rfl) rfl rfl ?_
          refine AJ_skip 46 rfl (by kernel_rfl) (by kernel_rfl) rfl rfl ?_
          refine AJ_skip 47 rfl (by kernel_rfl) (by kernel_rfl) rfl rfl ?_
          refine AJ_skip 48 rfl (by kernel_rfl) (by kernel_rfl) rfl rfl ?_
          refine AJ_skip 49 rfl (by kernel_rfl) (by kernel_rfl) rfl rfl ?_
          refine AJ_skip 50 rfl (by kernel_rfl) (by kernel_rfl) rfl rfl ?_
          refine AJ_skip 51 rfl (by kernel_rfl) (by kernel_rfl) rfl rfl ?_
          refine AJ_skip 52 rfl (by kernel_rfl) (by kernel_rfl) rfl rfl ?_
          refine AJ_skip 53 rfl (by kernel_rfl) (by kernel_rfl) rfl rfl ?_
          refine AJ_skip 54 rfl (by kernel_rfl) (by kernel_rfl) rfl rfl ?_
          refine AJ_skip 55 rfl (by kernel_rfl) (by kernel_rfl) rfl rfl ?_
          refine AJ_skip 56 rfl (by kernel_rfl) (by kernel_rfl) rfl rfl ?_
          refine AJ_skip 57 rfl (by kernel_rfl) (by kernel_rfl) rfl rfl ?_
          refine AJ_y 58 rfl (by kernel_rfl) (by kernel_rfl) rfl rfl (YJ_pickF rfl rfl) ?_
          refine AJ_y 59 rfl (by kernel_rfl) (by kernel_rfl) rfl rfl (YJ_move rfl) ?_
          refine AJ_skip 60 rfl (by kernel_rfl) (by kernel_rfl) rfl rfl ?_
          refine AJ_skip 61 rfl (by kernel_rfl) (by kernel_rfl) rfl rfl ?_
          refine AJ_skip 62 rfl (by kernel_rfl) (by kernel_rfl) rfl rfl ?_
          refine AJ_skip 63 rfl (by kernel_rfl) (by kernel_rfl) rfl rfl ?_
          refine AJ_skip 64 rfl (by kernel_rfl) (by kernel_rfl) rfl rfl ?_
          refine AJ_skip 65 rfl (by kernel_rfl) (by kernel_rfl) rfl rfl ?_
          refine AJ_skip 66 rfl (by kernel_rfl) (by kernel_rfl) rfl rfl ?_
          refine AJ_skip 67 rfl (by kernel_rfl) (by kernel_rfl) rfl rfl ?_
          refine AJ_skip 68 rfl (by kernel_rfl) (by kernel_rfl) rfl rfl ?_
          refine AJ_skip 69 rfl (by kernel_rfl) (by kernel_rfl) rfl rfl ?_
          refine AJ_skip 70 rfl (by kernel_rfl) (by kernel_rfl) rfl rfl ?_
          refine AJ_skip 71 rfl (by kernel_rfl) (by kernel_rfl) rfl rfl ?_
          refine AJ_skip 72 rfl (by kernel_rfl) (by kernel_rfl) rfl rfl ?_
          refine AJ_skip 73 rfl (by kernel_rfl) (by kernel_rfl) rfl rfl ?_
          refine AJ_skip 74 rfl (by kernel_rfl) (by kernel_rfl) rfl rfl ?_
          refine AJ_skip 75 rfl (by kernel_rfl) (by kernel_rfl) rfl rfl ?_
          refine AJ_skip 76 rfl (by kernel_rfl) (by kernel_rfl) rfl rfl ?_
          refine AJ_skip 77 rfl (by kernel_rfl) (by kernel_rfl) rfl rfl ?_
          refine AJ_skip 78 rfl (by kernel_rfl) (by kernel_rfl) rfl rfl ?_
          refine AJ_skip 79 rfl (by kernel_rfl) (by kernel_rfl) rfl rfl ?_
          refine AJ_skip 80 rfl (by kernel_rfl) (by kernel_rfl) rfl rfl ?_
          refine AJ_y 81 rfl (by kernel_rfl) (by kernel_rfl) rfl rfl (YJ_pickF rfl rfl) ?_
          refine AJ_y 82 rfl (by kernel_rfl) (by kernel_rfl) rfl rfl (YJ_assign rfl) ?_
          refine AJ_done (by kernel_rfl) ?_
          refine QJ_then ?_
          refine CJ_ret ?_
          refine QJ_finM (.inl rfl) [D0] rfl (μ' := []) (μr := [_, _, _, _, _, _, _]) (φ' := []) (res_tmp rfl rfl) (permI [] rfl) (fun _ h => nomatch h) ?_
          exact ⟨congrArg Value.bool (by rw [he]; unfold rEnd rGhost hasV; (try simp only [← ptAt_def, sgn_pos]); first | (simp [h26, h35, h133, h193, h199, h221, h252, h257]; done) | grind), rfl, rfl⟩
        ·simp only [decide_eq_false_iff_not] at h252
         refine AJ_skip 4 rfl (by kernel_rfl) (by kernel_rfl) rfl rfl ?_
         refine AJ_skip 5 rfl (by kernel_rfl) (by kernel_rfl) rfl rfl ?_
         refine AJ_skip 6 rfl (by kernel_rfl) (by kernel_rfl) rfl rfl ?_
         refine AJ_y 7 rfl (by kernel_rfl) (by kernel_rfl) rfl rfl (YJ_pickF rfl rfl) ?_
         refine AJ_y 8 rfl (by kernel_rfl) (by kernel_rfl) rfl rfl (YJ_move rfl) ?_
         refine AJ_skip 9 rfl (by kernel_rfl) (by kernel_rfl) rfl rfl ?_
         refine AJ_skip 10 rfl (by kernel_rfl) (by kernel_rfl) rfl rfl ?_
         refine AJ_skip 11 rfl (by kernel_rfl) (by kernel_rfl) rfl rfl ?_
         refine AJ_y 12 rfl (by kernel_rfl) (by kernel_rfl) rfl rfl (YJ_pickF rfl rfl) ?_
         refine AJ_y 13 rfl (by kernel_rfl) (by kernel_rfl) rfl rfl (YJ_move rfl) ?_
         refine AJ_skip 14 rfl (by kernel_rfl) (by kernel_rfl) rfl rfl ?_
         refine AJ_skip 15 rfl (by kernel_rfl) (by kernel_rfl) rfl rfl ?_
         refine AJ_skip 16 rfl (by kernel_rfl) (by kernel_rfl) rfl rfl ?_
         refine AJ_skip 17 rfl (by kernel_rfl) (by kernel_rfl) rfl rfl ?_
         refine AJ_skip 18 rfl (by kernel_rfl) (by kernel_rfl) rfl rfl ?_
         refine AJ_skip 19 rfl (by kernel_rfl) (by kernel_rfl) rfl rfl ?_
         refine AJ_skip 20 rfl (by kernel_rfl) (by kernel_rfl) rfl rfl ?_
         refine AJ_skip 21 rfl (by kernel_rfl) (by kernel_rfl) rfl rfl ?_
         refine AJ_skip 22 rfl (by kernel_rfl) (by kernel_rfl) rfl rfl ?_
         refine AJ_skip 23 rfl (by kernel_rfl) (by kernel_rfl) rfl rfl ?_
         refine AJ_skip 24 rfl (by kernel_rfl) (by kernel_rfl) rfl rfl ?_
         refine AJ_skip 25 rfl (by kernel_rfl) (by kernel_rfl) rfl rfl ?_
         refine AJ_skip 26 rfl (by kernel_rfl) (by kernel_rfl) rfl rfl ?_
         refine AJ_skip 27 rfl (by kernel_rfl) (by kernel_rfl) rfl rfl ?_
         refine AJ_skip 28 rfl (by kernel_rfl) (by kernel_rfl) rfl rfl ?_
         refine AJ_skip 29 rfl (by kernel_rfl) (by kernel_rfl) rfl rfl ?_
         refine AJ_skip 30 rfl (by kernel_rfl) (by kernel_rfl) rfl rfl ?_
         refine AJ_skip 31 rfl (by kernel_rfl) (by kernel_rfl) rfl rfl ?_
         refine AJ_skip 32 rfl (by kernel_rfl) (by kernel_rfl) rfl rfl ?_
         refine AJ_skip 33 rfl (by kernel_rfl) (by kernel_rfl) rfl rfl ?_
         refine AJ_skip 34 rfl (by kernel_rfl) (by kernel_rfl) rfl rfl ?_
         refine AJ_y 35 rfl (by kernel_rfl) (by kernel_rfl) rfl rfl (YJ_pickF rfl rfl) ?_
         refine AJ_y 36 rfl (by kernel_rfl) (by kernel_rfl) rfl rfl (YJ_move rfl) ?_
         refine AJ_skip 37 rfl (by kernel_rfl) (by kernel_rfl) rfl rfl ?_
         refine AJ_skip 38 rfl (by kernel_rfl) (by kernel_rfl) rfl rfl ?_
         refine AJ_skip 39 rfl (by kernel_rfl) (by kernel_rfl) rfl rfl ?_
         refine AJ_skip 40 rfl (by kernel_rfl) (by kernel_rfl) rfl rfl ?_
         refine AJ_skip 41 rfl (by kernel_rfl) (by kernel_rfl) rfl rfl ?_
         refine AJ_skip 42 rfl (by kernel_rfl) (by kernel_rfl) rfl rfl ?_
         refine AJ_skip 43 rfl (by kernel_rfl) (by kernel_rfl) rfl rfl ?_
         refine AJ_skip 44 rfl (by kernel_rfl) (by kernel_rfl) rfl rfl ?_
         refine AJ_skip 45 rfl (by kernel_rfl) (by kernel_rfl) rfl rfl ?_
         refine AJ_skip 46 rfl (by kernel_rfl) (by kernel_rfl) rfl rfl ?_
         refine AJ_skip 47 rfl (by kernel_rfl) (by kernel_rfl) rfl rfl ?_
         refine AJ_skip 48 rfl (by kernel_rfl) (by kernel_rfl) rfl rfl ?_
         refine AJ_skip 49 rfl (by kernel_rfl) (by kernel_rfl) rfl rfl ?_
         refine AJ_skip 50 rfl (by kernel_rfl) (by kernel_rfl) rfl rfl ?_
         refine AJ_skip 51 rfl (by kernel_rfl) (by kernel_rfl) rfl rfl ?_
         refine AJ_skip 52 rfl (by kernel_rfl) (by kernel_rfl) rfl rfl ?_
         refine AJ_skip 53 rfl (by kernel_rfl) (by kernel_rfl) rfl rfl ?_
         refine AJ_skip 54 rfl (by kernel_rfl) (by kernel_rfl) rfl rfl ?_
         refine AJ_skip 55 rfl (by kernel_rfl) (by kernel_rfl) rfl rfl ?_
         refine AJ_skip 56 rfl (by kernel_rfl) (by kernel_rfl) rfl rfl ?_
         refine AJ_skip 57 rfl (by kernel_rfl) (by kernel_rfl) rfl rfl ?_
         refine AJ_y 58 rfl (by kernel_rfl) (by kernel_rfl) rfl rfl (YJ_pickF rfl rfl) ?_
         refine AJ_y 59 rfl (by kernel_rfl) (by kernel_rfl) rfl rfl (YJ_move rfl) ?_
         refine AJ_skip 60 rfl (by kernel_rfl) (by kernel_rfl) rfl rfl ?_
         refine AJ_skip 61 rfl (by kernel_rfl) (by kernel_rfl) rfl rfl ?_
         refine AJ_skip 62 rfl (by kernel_rfl) (by kernel_rfl) rfl rfl ?_
         refine AJ_skip 63 rfl (by kernel_rfl) (by kernel_rfl) rfl rfl ?_
         refine AJ_skip 64 rfl (by kernel_rfl) (by kernel_rfl) rfl rfl ?_
         refine AJ_skip 65 rfl (by kernel_rfl) (by kernel_rfl) rfl rfl ?_
         refine AJ_skip 66 rfl (by kernel_rfl) (by kernel_rfl) rfl rfl ?_
         refine AJ_skip 67 rfl (by kernel_rfl) (by kernel_rfl) rfl rfl ?_
         refine AJ_skip 68 rfl (by kernel_rfl) (by kernel_rfl) rfl rfl ?_
         refine AJ_skip 69 rfl (by kernel_rfl) (by kernel_rfl) rfl rfl ?_
         refine AJ_skip 70 rfl (by kernel_rfl) (by kernel_rfl) rfl rfl ?_
         refine AJ_skip 71 rfl (by kernel_rfl) (by kernel_rfl) rfl rfl ?_
         refine AJ_skip 72 rfl (by kernel_rfl) (by kernel_rfl) rfl rfl ?_
         refine AJ_skip 73 rfl (by kernel_rfl) (by kernel_rfl) rfl rfl ?_
         refine AJ_skip 74 rfl (by kernel_rfl) (by kernel_rfl) rfl rfl ?_
         refine AJ_skip 75 rfl (by kernel_rfl) (by kernel_rfl) rfl rfl ?_
         refine AJ_skip 76 rfl (by kernel_rfl) (by kernel_rfl) rfl rfl ?_
         refine AJ_skip 77 rfl (by kernel_rfl) (by kernel_rfl) rfl rfl ?_
         refine AJ_skip 78 rfl (by kernel_rfl) (by kernel_rfl) rfl rfl ?_
         refine AJ_skip 79 rfl (by kernel_rfl) (by kernel_rfl) rfl rfl ?_
         refine AJ_skip 80 rfl (by kernel_rfl) (by kernel_rfl) rfl rfl ?_
         refine AJ_y 81 rfl (by kernel_rfl) (by kernel_rfl) rfl rfl (YJ_pickF rfl rfl) ?_
         refine AJ_y 82 rfl (by kernel_rfl) (by kernel_rfl) rfl rfl (YJ_assign rfl) ?_
         refine AJ_done (by kernel_rfl) ?_
         refine QJ_then ?_
         refine CJ_ret ?_
         refine QJ_finM (.inl rfl) [D0] rfl (μ' := []) (μr := [_, _, _, _, _, _, _]) (φ' := []) (res_tmp rfl rfl) (permI [] rfl) (fun _ h => nomatch h) ?_
         exact ⟨congrArg Value.bool (by rw [he]; unfold rEnd rGhost hasV; (try simp only [← ptAt_def, sgn_pos]); first | (simp [h26, h35, h133, h193, h199, h221, h252]; done) | grind), rfl, rfl⟩
   ·exact fun _ _ _ _ _ h => h.elim
end Go.Proofs.Ytbanlhlggkdanaa
namespace Go.Proofs.Ytbanlhlggkdanaa
open Go.RowKit
theorem ent_16 : Enter Try.prog 16 = true := by kernel_rfl
section
variable {E : Env} {Q : Qt} {σ : List (Nat × Value)} {μ φ : List Res} {ops : Array Oper} {rest : List Oper} {cd : Code} {B : Nat} {M : MD}
def frzFs (B : Nat) (M : MD) (h : Mh) : List Res := meshFs B h M.pts M.tris ++ [sliceR 1 h.F M.free.length (Iv M.free), sliceR 1 h.A M.ats.length (Iv M.ats)]
theorem OKm.freezeMesh {w : World} (hm : OKm E (meshR B M :: μ) φ w) : ∃ h : Mh, (h.nf = M.free.length ∧ h.na = M.ats.length ∧ (0 < M.tris.length → M.tris.length ≤ h.ct)) ∧ OKm E μ (frzFs B M h ++ φ) w := by
 obtain ⟨⟨P, cP, T, cT, F, cF, A, cA⟩, h1⟩ := hm.openEx
 have h2 : OKm E (cellsR B #[.slice P M.pts.length cP, .slice T M.tris.length cT, .slice F M.free.length cF, .slice A M.ats.length cA] 57 ::
  rowR 23 2 P M.pts.length cP (ptCells M.pts) :: rowR 37 9 T M.tris.length cT (trCells M.tris) :: rowR 3 1 F M.free.length cF (Iv M.free) :: rowR 3 1 A M.ats.length cA (Iv M.ats) :: μ) φ w := h1
 have h3 := h2.freeze.addF (r' := sliceR 4 (some ⟨B, 0, none⟩) 1 [.slice P M.pts.length cP, .slice T M.tris.length cT, .slice F M.free.length cF, .slice A M.ats.length cA]) (.head _) (fun S h => cellsR_slice (n := 1) rfl w S h)
 have h4 := h3.freezeRow.freezeRow.freezeRow.freezeRow
 refine ⟨⟨P, cP, T, cT, F, M.free.length, cF, A, M.ats.length, cA⟩, ⟨rfl, rfl, fun hn => let ⟨_, _, q⟩ := h2.rowSome (.tail _ (.tail _ (.head _))) hn; q⟩, h4.weak (μr := []) (by simp) ?_⟩
 intro r hr
 simp only [frzFs, meshFs, List.cons_append, List.nil_append, List.mem_cons] at hr
 simp only [List.mem_cons]
 rcases hr with h | h | h | h | h | h
 ·exact .inr (.inr (.inr (.inr (.inl h))))
 ·exact .inr (.inr (.inr (.inl h)))
 ·exact .inr (.inr (.inl h))
 ·exact .inr (.inl h)
 ·exact .inl h
 ·exact .inr (.inr (.inr (.inr (.inr (.inr h)))))
theorem LJ_freezeMesh (h : ∀ hm : Mh, hm.nf = M.free.length → hm.na = M.ats.length → LJ E Q ops rest σ μ (frzFs B M hm ++ φ)) : LJ E Q ops rest σ (meshR B M :: μ) φ := fun a w ha hm => let ⟨x, h1, h3⟩ := hm.freezeMesh; h x h1.1 h1.2.1 a w ha h3
theorem LJ_freezeMeshC (h : ∀ hm : Mh, (0 < M.tris.length → M.tris.length ≤ hm.ct) → LJ E Q ops rest σ μ (frzFs B M hm ++ φ)) : LJ E Q ops rest σ (meshR B M :: μ) φ := fun a w ha hm => let ⟨x, h1, h3⟩ := hm.freezeMesh; h x h1.2.2 a w ha h3
theorem CJ_freezeMesh (h : ∀ hm : Mh, hm.nf = M.free.length → hm.na = M.ats.length → CJ E Q cd σ μ (frzFs B M hm ++ φ)) : CJ E Q cd σ (meshR B M :: μ) φ := fun a w ha hm => let ⟨x, h1, h3⟩ := hm.freezeMesh; h x h1.1 h1.2.1 a w ha h3
theorem frz_mesh {h : Mh} : ∀ r, r ∈ meshFs B h M.pts M.tris → r ∈ frzFs B M h ++ φ := fun r hr => List.mem_append_left _ (List.mem_append_left _ hr)
end
theorem eqs_ptr (a : Addr) (x y : Operand) (w : World) :
  (do eqGuard .eql 28 x y (.pointer (some a)) (.pointer none); binOp .eql 28 (.pointer (some a)) (.pointer none) : Sem Value).run Try.prog w = .ok (.bool false) w := by
 simp only [Sem.run_bind]
 rw [show (eqGuard .eql 28 x y (.pointer (some a)) (.pointer none)) = pure () from rfl]
 simp only [Sem.run_pure, Result.andThen_ok]
 rw [run_eql_pointer_nil w 28 (some a) (by kernel_rfl)]
 rfl
def triNew (a b c : Int) : List Tr := [⟨a, b, c, 1, 2, 3, false, false, false⟩, ⟨c, b, -1, 3, 2, 0, false, false, false⟩, ⟨a, c, -1, 1, 3, 0, false, false, false⟩, ⟨b, a, -1, 2, 1, 0, false, false, false⟩]
theorem newM_tris (pts : List (Int × Int)) (a b c : Int) : (newM pts a b c).tris = triNew a b c := rfl
theorem newM_pts (pts : List (Int × Int)) (a b c : Int) : (newM pts a b c).pts = pts := rfl
theorem triNew_ok {pts : List (Int × Int)} {a b c : Nat} (ha : a < pts.length) (hb : b < pts.length) (hc : c < pts.length) : okTris pts (triNew a b c) := fun t ht hr => by
 simp only [triNew, List.mem_cons, List.not_mem_nil, or_false] at ht
 rcases ht with rfl | rfl | rfl | rfl
 ·unfold Tr.ok; dsimp only; omega
 all_goals (obtain ⟨_, _, h⟩ := hr; dsimp only at h; omega)
theorem triNew_g {pts : List (Int × Int)} {a b c : Nat} (ha : a < pts.length) (hb : b < pts.length) (hc : c < pts.length) : gOk pts (triNew a b c) := fun t ht => by
 simp only [triNew, List.mem_cons, List.not_mem_nil, or_false] at ht
 rcases ht with rfl | rfl | rfl | rfl <;> dsimp only <;> omega
theorem triNew_reals {a b c : Nat} : reals (triNew a b c) = [(0, ⟨a, b, c, 1, 2, 3, false, false, false⟩)] := by
 simp [reals, triNew, realsF, Tr.real]
abbrev fitP : List (Int × Int) := [(0, 0), (3, 0), (0, 3)]
theorem fitP_ok : ∀ j, j < fitP.length → P2 (fitP.getD j (0, 0)).1 (fitP.getD j (0, 0)).2 := by
 intro j hj
 have : j = 0 ∨ j = 1 ∨ j = 2 := by simp at hj; omega
 rcases this with rfl | rfl | rfl <;> exact by unfold P2 Tm; simp
theorem p2_small {x y : Int} (hx : 0 ≤ x ∧ x ≤ 100) (hy : 0 ≤ y ∧ y ≤ 100) : P2 x y := by unfold P2 Tm; omega
set_option maxRecDepth 100000 in
set_option maxHeartbeats 4000000 in
theorem fit10_c  : Tri Try.prog 16 [] [] [] (Ret0 (.bool true)) := by
 refine Tri_of (N := 46) Try.func16 rfl ent_16 rfl rfl ?_
 intro w0 S0 T0
 show CJ _ _ _ [] _ _
 refine CJ_seq ?_
 refine CJ_reg ?_
 refine LJ_y rfl rfl (YJ_assign rfl) ?_
 refine LJ_nil ?_
 refine QJ_then ?_
 refine CJ_seq ?_
 refine CJ_reg ?_
 refine LJ_y rfl rfl (YJ_build1 (cs := [_, _]) lay_23 rfl rfl rfl) ?_
 refine LJ_y rfl rfl (YJ_build1 (cs := [_, _]) lay_23 rfl rfl rfl) ?_
 refine LJ_y rfl rfl (YJ_build1 (cs := [_, _]) lay_23 rfl rfl rfl) ?_
 refine LJ_buildSliceN (vs := [_, _, _]) (cs := [_, _, _, _, _, _]) rfl rfl elt_26 zer_23 (by decide) (by decide) rfl rfl rfl rfl rfl ?_
 intro b1
 refine LJ_freeze ?_
 refine LJ_addF (r' := sliceR 2 (some ⟨b1, 0, none⟩) 3 (ptCells fitP)) (.head _) (fun w S h => cellsR_slice (n := 3) rfl w S h) ?_
 refine LJ_callN rfl rfl rfl rfl rfl (new_pos (pts := fitP) (a := 0) (b := 1) (c := 2) (by decide) (by decide) (by decide) (by decide) fitP_ok (by decide)) (fun r h => by rw [List.mem_singleton] at h; subst h; exact .head _) ?_
 intro Bm _
 refine LJ_freezeMesh (fun hm hmF hmA => ?_)
 refine LJ_y rfl rfl (YJ_move rfl) ?_
 refine LJ_y rfl rfl (YJ_extract rfl rfl) ?_
 refine LJ_y rfl rfl (YJ_extract rfl rfl) ?_
 refine LJ_y rfl rfl (YJ_assign rfl) ?_
 refine LJ_y rfl rfl (YJ_assign rfl) ?_
 refine LJ_nil ?_
 refine QJ_then ?_
 refine CJ_seq ?_
 refine CJ_seq ?_
 refine CJ_reg ?_
 refine LJ_y rfl rfl (YJ_move rfl) ?_
 refine LJ_y rfl rfl (YJ_not rfl) ?_
 refine LJ_y rfl rfl (YJ_move rfl) ?_
 refine LJ_bool (c := false) rfl ?_
 refine LJ_y rfl rfl (YJ_move rfl) ?_
 refine LJ_y rfl rfl (YJ_eqs rfl rfl (fun w => eqs_ptr ..)) ?_
 refine LJ_y rfl rfl (YJ_pickF rfl rfl) ?_
 refine LJ_nil ?_
 refine QJ_then ?_
 refine CJ_condF rfl ?_
 refine CJ_skip ?_
 refine QJ_then ?_
 refine CJ_seq ?_
 refine CJ_reg ?_
 refine LJ_y rfl rfl (YJ_move rfl) ?_
 refine LJ_y rfl rfl (YJ_build1 (cs := [_, _]) lay_23 rfl rfl rfl) ?_
 refine LJ_call0 rfl rfl rfl rfl rfl (look_c (h := hm) fitP_ok (triNew_ok (a := 0) (b := 1) (c := 2) (by decide) (by decide) (by decide)) (by decide) (p2_small (x := 1) (y := 1) (by decide) (by decide))) (fun r h => frz_mesh r h) ?_
 refine LJ_val (v := .agg #[.int .i64 0, .int .i64 0, .int .i64 0, .int .i64 0]) (congrArg plV (show look fitP (triNew 0 1 2) (1, 1) = (0, 0, 0, 0) from by kernel_rfl)) ?_
 refine LJ_y rfl rfl (YJ_move rfl) ?_
 refine LJ_y rfl rfl (YJ_build1 (cs := [_, _]) lay_23 rfl rfl rfl) ?_
 refine LJ_call0 rfl rfl rfl rfl rfl (look_c (h := hm) fitP_ok (triNew_ok (a := 0) (b := 1) (c := 2) (by decide) (by decide) (by decide)) (by decide) (p2_small (x := 3) (y := 3) (by decide) (by decide))) (fun r h => frz_mesh r h) ?_
 refine LJ_val (v := .agg #[.int .i64 3, .int .i64 1, .int .i64 0, .int .i64 0]) (congrArg plV (show look fitP (triNew 0 1 2) (3, 3) = (3, 1, 0, 0) from by kernel_rfl)) ?_
 refine LJ_alloc (cs := #[_, _, _, _]) rfl rfl zer_42 rfl ?_
 intro b2
 refine LJ_alloc (cs := #[_, _, _, _]) rfl rfl zer_42 rfl ?_
 intro b3
 refine LJ_store (cs' := #[_, _, _, _]) (μ' := [_, _]) 1 rfl rfl rfl rfl tyi_42 rfl (Nat.le_of_ble_eq_true rfl) rfl rfl rfl ?_
 refine LJ_store (cs' := #[_, _, _, _]) (μ' := [_, _]) 0 rfl rfl rfl rfl tyi_42 rfl (Nat.le_of_ble_eq_true rfl) rfl rfl rfl ?_
 refine LJ_nil ?_
 refine QJ_then ?_
 refine CJ_seq ?_
 refine CJ_reg ?_
 refine LJ_y rfl rfl (YJ_fieldOwn rfl fld_42_0 rfl) ?_
 refine LJ_y rfl rfl (YJ_loadL rfl tyi_3 m1 rfl) ?_
 refine LJ_y rfl rfl (YJ_bin rfl rfl rfl) ?_
 refine LJ_y rfl rfl (YJ_move rfl) ?_
 refine LJ_bool (c := true) rfl ?_
 refine LJ_y rfl rfl (YJ_fieldOwn rfl fld_42_0 rfl) ?_
 refine LJ_y rfl rfl (YJ_loadL rfl tyi_3 m0 rfl) ?_
 refine LJ_y rfl rfl (YJ_bin rfl rfl rfl) ?_
 refine LJ_y rfl rfl (YJ_pickT rfl rfl) ?_
 refine LJ_y rfl rfl (YJ_move rfl) ?_
 refine LJ_bool (c := true) rfl ?_
 refine LJ_y rfl rfl (YJ_move rfl) ?_
 refine LJ_y rfl rfl (YJ_fieldOwn rfl fld_42_1 rfl) ?_
 refine LJ_y rfl rfl (YJ_loadL rfl tyi_3 m1 rfl) ?_
 refine LJ_call0 rfl rfl rfl rfl rfl (real_c (h := hm) (pts := fitP) (tris := triNew 0 1 2)) (fun r h => frz_mesh r h) ?_
 refine LJ_y rfl rfl (YJ_pickT rfl rfl) ?_
 refine LJ_y rfl rfl (YJ_move rfl) ?_
 refine LJ_bool (c := true) (by kernel_rfl) ?_
 refine LJ_y rfl rfl (YJ_move rfl) ?_
 refine LJ_y rfl rfl (YJ_fieldOwn rfl fld_42_1 rfl) ?_
 refine LJ_y rfl rfl (YJ_loadL rfl tyi_3 m1 rfl) ?_
 refine LJ_y rfl rfl (YJ_build1 (cs := [_, _]) lay_23 rfl rfl rfl) ?_
 refine LJ_call0 rfl rfl rfl rfl rfl (holds_c (h := hm) (tris := triNew 0 1 2) (t := ⟨0, 1, 2, 1, 2, 3, false, false, false⟩) fitP_ok (by decide) rfl (by unfold Tr.ok; decide) (p2_small (x := 0) (y := 0) (by decide) (by decide))) (fun r h => frz_mesh r h) ?_
 refine LJ_y rfl rfl (YJ_pickT rfl rfl) ?_
 refine LJ_y rfl rfl (YJ_assign rfl) ?_
 refine LJ_nil ?_
 refine QJ_then ?_
 refine CJ_ret ?_
 refine QJ_fin (.inl rfl) (μ' := []) (μr := _) (φ' := []) (res_tmp rfl rfl) (List.Perm.refl _) (fun _ h => nomatch h) ?_
 exact ⟨congrArg Value.bool (by kernel_rfl), rfl, rfl⟩
end Go.Proofs.Ytbanlhlggkdanaa
namespace Go.Proofs.Ytbanlhlggkdanaa
open Go.RowKit
theorem ent_4 : Enter Try.prog 4 = true := by kernel_rfl
theorem und_45 : (Try.prog.underlying 45).isSome = true := by kernel_rfl
theorem uint_3 : Try.prog.underlying 3 = some (.int .i64) := by kernel_rfl
theorem realsF_lt : ∀ {l : List Tr} {b : Nat}, (realsF b l).Pairwise (fun x y => x.1 < y.1)
 | [], _ => List.Pairwise.nil
 | t :: l, b => by
  unfold realsF
  split
  ·refine List.Pairwise.cons (fun y hy => ?_) realsF_lt
   have := (realsF_mem (k := y.1) (t := y.2)).1 hy
   dsimp only
   omega
  ·exact realsF_lt
section
variable {pts : List (Int × Int)} {tris : List Tr} {X Y : Nat} {R : List (Nat × Tr)} {p : Int × Int}
theorem GL.ghost (h : GL pts tris X Y R) {q : Nat} {g : Tr} (hq : tris[q]? = some g) (hg : ¬ g.real) : (0 ≤ g.v0 ∧ g.v0 < pts.length) ∧ (0 ≤ g.v1 ∧ g.v1 < pts.length) ∧ g.v2 = -1 ∧ ∃ (i : Nat) (t : Tr) (k : Nat), k < 3 ∧ tris[i]? = some t ∧ t.real ∧ t.n k = ((q : Nat) : Int) ∧ ¬ isReal tris (t.n k) ∧ (g.v1, g.v0) = kv t.vv k := by
 obtain ⟨i, t, k, hk, h1, h2, h3, h4⟩ := h.gh q g hq hg
 have hv := (h.tri _ (h.rvs ▸ rvs_mem h1 h2)).1
 have hk' : ∀ j, 0 ≤ at3 t.v0 t.v1 t.v2 j ∧ at3 t.v0 t.v1 t.v2 j < pts.length := fun j => by
  obtain ⟨a, b, c⟩ := hv
  unfold at3
  split
  ·exact a
  ·split
   ·exact b
   ·exact c
 obtain ⟨e0, e1⟩ := Prod.mk.inj h4
 obtain ⟨e1, e2⟩ := Prod.mk.inj e1
 refine ⟨by rw [e0]; exact hk' _, by rw [e1]; exact hk' _, e2, i, t, k, hk, h1, h2, h3, ?_, by rw [e0, e1]⟩
 rw [h3]
 rintro ⟨_, g', g1, g2⟩
 rw [Int.toNat_natCast, hq] at g1
 cases g1
 exact hg g2
theorem GL.gOk (h : GL pts tris X Y R) : gOk pts tris := fun t ht => by
 obtain ⟨q, hq⟩ := List.mem_iff_getElem?.1 ht
 by_cases hr : t.real
 ·obtain ⟨a, b, c⟩ := hr
  refine ⟨fun e => ?_, fun e => ?_, fun e => ?_⟩ <;> omega
 ·obtain ⟨a, b, c, _⟩ := h.ghost hq hr
  refine ⟨fun e => ?_, fun e => ?_, fun e => ⟨a, b⟩⟩ <;> omega
theorem GL.look_idx (h : GL pts tris X Y R) : 0 ≤ (look pts tris p).2.1 ∧ (look pts tris p).2.1 < tris.length := by
 rcases h.lookd (p := p) with ⟨_, _, i, t, _, _, h3, h4, h5, h6⟩ | ⟨⟨q, t, k, hk, hq, hr, hn, hb, he⟩, _⟩
 ·rw [h6, place_idx]
  have := (List.getElem?_eq_some_iff.1 h4).1
  omega
 ·rw [he]
  obtain ⟨u0, _, g, g1, _⟩ := (h.out q t k hq hr hk).resolve_left hn
  have := (List.getElem?_eq_some_iff.1 g1).1
  dsimp only
  omega
theorem GL.before (h : GL pts tris X Y R) {q : Nat} {z : Tr} (hq : (q : Int) < (look pts tris p).2.1) (hz : tris[q]? = some z) : (z.real → (look pts tris p).1 ≠ 3 → ¬ hld pts z p) ∧
  (¬ z.real → (look pts tris p).1 = 3 → ∀ j, j < 3 → z.v j = -1 → ¬ 0 < A2 (ptAt pts (z.v ((j + 1) % 3))).1 (ptAt pts (z.v ((j + 1) % 3))).2 (ptAt pts (z.v ((j + 2) % 3))).1 (ptAt pts (z.v ((j + 2) % 3))).2 p.1 p.2) := by
 rcases h.lookd (p := p) with ⟨pre, suf, i, t, h1, h2, h3, h4, h5, h6⟩ | ⟨⟨q', t, k, hk, hq', hr, hn, hb, he⟩, hmin⟩
 ·rw [h6, place_idx] at hq
  refine ⟨fun hr _ hh => ?_, fun _ h3 => ?_⟩
  ·have hm : (q, z) ∈ reals tris := reals_mem.2 ⟨hz, hr⟩
   have hp : (reals tris).Pairwise (fun x y => x.1 < y.1) := realsF_lt
   rw [h1] at hm hp
   rcases List.mem_append.1 hm with m | m
   ·exact h2 _ m hh
   ·rcases List.mem_cons.1 m with m | m
    ·have := congrArg Prod.fst m
     dsimp only at this
     omega
    ·have := (List.pairwise_cons.1 (List.pairwise_append.1 hp).2.1).1 _ m
     dsimp only at this
     omega
  ·rw [h6] at h3
   exact absurd h3 (place_kind _ _ _ _)
 ·refine ⟨fun _ h3 => absurd (by rw [he]) h3, fun hg _ j hj hv hA => ?_⟩
  obtain ⟨a, b, c, i, t', k', hk', g1, g2, g3, g4, g5⟩ := h.ghost hz hg
  match j, hj with
  | 0, _ => have : z.v0 = -1 := hv; omega
  | 1, _ => have : z.v1 = -1 := hv; omega
  | 2, _ =>
   have hA2 : 0 < A2 (ptAt pts z.v0).1 (ptAt pts z.v0).2 (ptAt pts z.v1).1 (ptAt pts z.v1).2 p.1 p.2 := hA
   rw [A2_swap] at hA2
   have hb' : bey pts t' k' p := by
    have e : A2 (ptAt pts (kv t'.vv k').1).1 (ptAt pts (kv t'.vv k').1).2 (ptAt pts (kv t'.vv k').2).1 (ptAt pts (kv t'.vv k').2).2 p.1 p.2 < 0 := by rw [← g5]; dsimp only; omega
    exact e
   have := hmin i t' k' hk' g1 g2 g4 hb'
   rw [g3] at this
   omega
end
set_option maxRecDepth 100000 in
set_option maxHeartbeats 8000000 in
theorem finds_c {v q1 q2 l1 l2 : Int} (hv : 0 ≤ v ∧ v < 4294967296) (hl : l2 ≤ 9223372036854775807) : Tri Try.prog 4 [.int .u32 v, ptv q1 q2, .agg #[.int .i64 l1, .int .i64 l2]] [] [] (Ret0 (.bool true)) := by
 refine Tri_of (N := 53) Try.func4 rfl ent_4 rfl rfl ?_
 intro w0 S0 T0
 show CJ _ _ _ [(0, _), (1, _), (2, _)] _ _
 refine CJ_seq ?_
 refine CJ_reg ?_
 refine LJ_box (cs := #[_, _]) rfl rfl rfl rfl ?_
 intro b1
 refine LJ_box (cs := #[_, _]) rfl rfl rfl rfl ?_
 intro b2
 refine LJ_y rfl rfl (YJ_assign rfl) ?_
 refine LJ_nil ?_
 refine QJ_then ?_
 refine CJ_seq ?_
 refine CJ_seq ?_
 refine CJ_reg ?_
 refine LJ_call0 rfl rfl rfl rfl rfl fit10_c (fun _ h => nomatch h) ?_
 refine LJ_y rfl rfl (YJ_not rfl) ?_
 refine LJ_nil ?_
 refine QJ_then ?_
 refine CJ_condF rfl ?_
 refine CJ_skip ?_
 refine QJ_then ?_
 refine CJ_seq ?_
 refine CJ_reg ?_
 refine LJ_y rfl rfl (YJ_move rfl) ?_
 refine LJ_y rfl rfl (YJ_shr rfl rfl (by decide)) ?_
 refine LJ_y rfl rfl (YJ_convII rfl und_45 uint_3) ?_
 refine LJ_y rfl rfl (YJ_move rfl) ?_
 refine LJ_y rfl rfl (YJ_shr rfl rfl (by decide)) ?_
 refine LJ_y rfl rfl (YJ_convII rfl und_45 uint_3) ?_
 refine LJ_y rfl rfl (YJ_move rfl) ?_
 refine LJ_callP (μ1 := []) (μr := [_, _]) (permI [] rfl) rfl rfl rfl rfl rfl (grid_c (w := IntKind.wrap .i64 (v / 2 ^ 8)) (h := IntKind.wrap .i64 (v / 2 ^ 9)) (fa := 0) hv (by decide)) (fun _ h => nomatch h) ?_
 rintro ⟨B9, F9, border, TA, cT⟩ ⟨hF9, hB9⟩
 have hF9 := hF9 rfl
 dsimp only at hF9 hB9
 subst hF9
 obtain ⟨hpt, hGL⟩ := grid_law (gW_or _) (gW_or _) hB9
 obtain ⟨hgl, hgp⟩ := gPts_ok (gW_or (IntKind.wrap .i64 (v / 2 ^ 8))) (gW_or (IntKind.wrap .i64 (v / 2 ^ 9)))
 show LJ _ _ _ _ ((21, .tuple #[.pointer (some ⟨B9, 0, none⟩), .slice TA _ cT]) :: _) (meshR B9 (buildG [] (gridR [] (gW (IntKind.wrap .i64 (v / 2 ^ 8))) (gW (IntKind.wrap .i64 (v / 2 ^ 9))) (bitN v)) border).M :: _) _
 generalize (buildG [] (gridR [] (gW (IntKind.wrap .i64 (v / 2 ^ 8))) (gW (IntKind.wrap .i64 (v / 2 ^ 9))) (bitN v)) border).M = M9 at *
 rw [← hpt] at hGL hgl hgp
 have hP : ∀ j, j < M9.pts.length → P2 (M9.pts.getD j (0, 0)).1 (M9.pts.getD j (0, 0)).2 := by
  intro j hj
  have := hgp (M9.pts.getD j (0, 0)) (by rw [List.getD_eq_getElem?_getD, List.getElem?_eq_getElem hj]; exact List.getElem_mem hj)
  exact ⟨⟨by omega, by omega⟩, ⟨by omega, by omega⟩⟩
 have hT := hGL.okT
 have hG := hGL.gOk
 have hlen : M9.tris.length ≤ 1073741824 := Nat.le_trans hGL.len (by decide)
 refine LJ_freezeMesh (fun hm hmF hmA => ?_)
 show LJ _ _ _ _ _ (_ :: _ :: _) _
 refine LJ_y rfl rfl (YJ_move rfl) ?_
 refine LJ_y rfl rfl (YJ_extract rfl rfl) ?_
 refine LJ_y rfl rfl (YJ_extract rfl rfl) ?_
 refine LJ_y rfl rfl (YJ_assign rfl) ?_
 refine LJ_y rfl rfl (YJ_assign rfl) ?_
 refine LJ_nil ?_
 refine QJ_then ?_
 refine CJ_seq ?_
 refine CJ_seq ?_
 refine CJ_reg ?_
 refine LJ_y rfl rfl (YJ_move rfl) ?_
 refine LJ_y rfl rfl (YJ_eqs rfl rfl (fun w => eqs_ptr ..)) ?_
 refine LJ_nil ?_
 refine QJ_then ?_
 refine CJ_condF rfl ?_
 refine CJ_skip ?_
 refine QJ_then ?_
 refine CJ_seq ?_
 refine CJ_reg ?_
 refine LJ_y rfl rfl (YJ_loadN (vs := [_, _]) rfl tyi_23 m1 rfl rfl) ?_
 refine LJ_call0 rfl rfl rfl rfl rfl (tame_c) (fun _ h => nomatch h) ?_
 refine LJ_store (cs' := #[_, _]) (μ' := [_, _]) 1 rfl rfl rfl rfl tyi_23 rfl (Nat.le_of_ble_eq_true rfl) rfl rfl rfl ?_
 refine LJ_nil ?_
 refine QJ_then ?_
 refine CJ_seq ?_
 refine CJ_reg ?_
 refine LJ_y rfl rfl (YJ_move rfl) ?_
 refine LJ_y rfl rfl (YJ_loadN (vs := [_, _]) rfl tyi_23 m1 rfl rfl) ?_
 refine LJ_y rfl rfl (YJ_ixArr rfl rfl arrt_46 (by omega) (by omega) rfl) ?_
 refine LJ_y rfl rfl (YJ_loadL rfl tyi_3 m0 rfl) ?_
 refine LJ_y rfl rfl (YJ_ixArr rfl rfl arrt_46 (by omega) (by omega) rfl) ?_
 refine LJ_y rfl rfl (YJ_loadL rfl tyi_3 m0 rfl) ?_
 refine LJ_callX rfl rfl rfl rfl rfl (find_c (h := hm) hP hT hlen (tm_p q1 q2) hl) (fun r h => List.mem_append_left _ (List.mem_append_left _ h)) ?_
 rintro ⟨x9, n9⟩ hx9
 refine LJ_y rfl rfl (YJ_move rfl) ?_
 refine LJ_y rfl rfl (YJ_extract rfl rfl) ?_
 refine LJ_y rfl rfl (YJ_extract rfl rfl) ?_
 refine LJ_alloc (cs := #[_, _, _, _]) rfl rfl zer_42 rfl ?_
 intro b3
 refine LJ_store (cs' := #[_, _, _, _]) (μ' := [_, _, _]) 0 rfl rfl rfl rfl tyi_42 rfl (Nat.le_of_ble_eq_true rfl) rfl rfl rfl ?_
 refine LJ_y rfl rfl (YJ_assign rfl) ?_
 refine LJ_nil ?_
 refine QJ_then ?_
 refine CJ_seq ?_
 refine CJ_reg ?_
 refine LJ_y rfl rfl (YJ_move rfl) ?_
 refine LJ_y rfl rfl (YJ_loadN (vs := [_, _]) rfl tyi_23 m2 rfl rfl) ?_
 refine LJ_y rfl rfl (YJ_loadN (vs := [_, _, _, _]) rfl tyi_42 m0 rfl rfl) ?_
 refine LJ_call0 rfl rfl rfl rfl rfl (rgt_c (h := hm) hP hT hG hlen (tm_p q1 q2)) (fun r h => List.mem_append_right _ (List.mem_append_left _ (List.mem_append_left _ h))) ?_
 refine LJ_val (v := .bool true) (congrArg Value.bool (hGL.find_right hx9)) ?_
 refine LJ_y rfl rfl (YJ_move rfl) ?_
 refine LJ_bool (c := true) rfl ?_
 refine LJ_y rfl rfl (YJ_move rfl) ?_
 refine LJ_y rfl rfl (YJ_bin rfl rfl rfl) ?_
 refine LJ_val (v := .bool true) (congrArg Value.bool (decide_eq_true hx9.lo)) ?_
 refine LJ_y rfl rfl (YJ_pickT rfl rfl) ?_
 refine LJ_y rfl rfl (YJ_move rfl) ?_
 refine LJ_bool (c := true) rfl ?_
 refine LJ_y rfl rfl (YJ_move rfl) ?_
 refine LJ_y rfl rfl (YJ_ixArr rfl rfl arrt_46 (by omega) (by omega) rfl) ?_
 refine LJ_y rfl rfl (YJ_loadL rfl tyi_3 m1 rfl) ?_
 refine LJ_y rfl rfl (YJ_max2 rfl rfl) ?_
 refine LJ_y rfl rfl (YJ_bin rfl rfl rfl) ?_
 refine LJ_y rfl rfl (YJ_pickT rfl rfl) ?_
 refine LJ_y rfl rfl (YJ_assign rfl) ?_
 refine LJ_nil ?_
 refine QJ_then ?_
 refine CJ_ret ?_
 refine QJ_fin (.inl rfl) (μ' := []) (μr := _) (φ' := []) (res_tmp rfl rfl) (List.Perm.refl _) (fun _ h => nomatch h) ?_
 exact ⟨congrArg Value.bool (decide_eq_true hx9.hi), rfl, rfl⟩
end Go.Proofs.Ytbanlhlggkdanaa
namespace Go.Proofs.Ytbanlhlggkdanaa
open Go.ChangeShapes Go.WideShapes Go.ChangeAt Go.RowKit Go.Joins
section
variable {H : Type} {enc : TypeId × Value → H} {P : Program}
theorem post_of_below' {f : Func} {s : ChangeSpec} {apart fresh handsOn again : Bool} {W W' : World} {args : Array Value} {v : Value} {ds gs : List (DataW H)} {before pa pv : List MemPlace}
  (hW : DataW.Whole enc P f.params.toList s.vars apart W args.toList ds gs before)
  (hres : ∀ (b : Nat) (sp : Nat → Bool) (hd : Bool), DataW.TrodAll enc P W' b sp hd f.resultTypes.toList (v.resultList f.resultTypes.size) (s.fn H (ds ++ gs)).results [])
  (hargs : ∀ sp : Nat → Bool, (∀ p ∈ before, sp p.block = true) → DataW.TrodAll enc P W' 0 sp true f.params.toList args.toList (s.fn H (ds ++ gs)).args pa)
  (hvars : ∀ sp : Nat → Bool, (∀ p ∈ before, sp p.block = true) → DataW.TrodVars enc P W' sp s.vars (s.fn H (ds ++ gs)).vars pv)
  (hps : before = pa ++ pv) (hb : Below W.heap.size W W')
  (hok : ∀ (j : Nat) (t : TypeId) (r : Value), f.resultTypes[j]? = some t → (v.resultList f.resultTypes.size)[j]? = some r → Value.okWide P W' .any 0 t r) :
  s.post enc P f apart fresh handsOn again W args v W' := by
 have hlt : ∀ p ∈ before, p.block < W.heap.size := fun p hp => hW.lt p hp
 have hold : ∀ p ∈ before, (fun b => decide (b < W.heap.size)) p.block = true := fun p hp => by simpa using hlt p hp
 refine ⟨ds, gs, before, [], pa, pv, hW, hres _ _ _, hargs _ hold, hvars _ hold, World.keptBut_mono (fun p hp => ⟨hp, ?_⟩) (hb.frame (· ∈ before)), fun _ => ?_⟩
 ·rw [hps, List.mem_append] at hp
  exact Or.inr hp
 ·obtain ⟨_, _, _, _, _, hz, hn⟩ := hW
  refine ⟨hok, _, _, ([] ++ pa) ++ pv, ⟨[] ++ pa, pv, trodAll_append (hargs _ (fun _ _ => rfl)) (hres _ _ _), hvars _ (fun _ _ => rfl), rfl, ?_, ?_⟩, ?_⟩
  ·intro b off hp
   have hin : MemPlace.cell b off ∈ before := by rw [hps]; simpa using hp
   rw [hb.frozen (hlt _ hin)]
   exact hz b off hin
  ·intro ha
   have := hn ha
   rw [hps] at this
   simpa using this
  ·intro p hp _
   rw [hps]
   simpa using hp
end
theorem Tri.law {P : Program} {f : FuncId} {args : List Value} {v : Value} (h : Tri P f args [] [] (Ret0 v)) (w : World) :
  Calls P f args.toArray w fun e w' => e = .returned v ∧ Below w.heap.size w w' := by
 refine (h.2 w (fun _ => False) (fun _ => False) (fun _ h => h) (fun r hr => nomatch hr) (fun _ h _ => h) (fun _ h => h.elim)).mono ?_
 rintro e w' ⟨v', μ', φ', he, ⟨rfl, rfl, rfl⟩, hk, -⟩
 exact ⟨he, hk.below (fun _ h => h)⟩
theorem Try.own : ownKnob Try.prog.godebug = none := by kernel_rfl
theorem cellsI : Try.prog.cellsOf 3 = 1 := by kernel_rfl
theorem cellsP : Try.prog.cellsOf 23 = 2 := by kernel_rfl
theorem i64_b {n : Int} (h : (Lit.int .i64 n).wf = true) : I64 n := by
 simp [Lit.wf, IntKind.min, IntKind.max] at h
 simp [IntKind.signed, IntKind.bits] at h
 unfold I64
 omega
section
variable {H : Type} {enc : TypeId × Value → H} {w : World} {base b0 : Nat} {spare : Nat → Bool} {held : Bool} {r : Reach} {v : Value} {d : DataW H} {p : List MemPlace}
set_option maxRecDepth 100000 in
theorem open_pt (hv : Value.okWide Try.prog w r b0 23 v) (h : DataW.Trod enc Try.prog w base spare held 23 v d p) :
  ∃ x y : Int, v = .agg #[.int .i64 x, .int .i64 y] ∧ d = .agg [.lit (.int .i64 x), .lit (.int .i64 y)] ∧ p = [] ∧ (Lit.int .i64 x).wf = true ∧ (Lit.int .i64 y).wf = true := by
 obtain ⟨c0, c1, y0, y1, m, rfl, rfl, rfl, hy0, hy1⟩ := open_agg2 Try.underlying23 (by kernel_rfl) cellsP hv h
 obtain ⟨a, e0, rfl, wa⟩ := DataW.trod_int Try.underlying3 hy0
 obtain ⟨b, e1, rfl, wb⟩ := DataW.trod_int Try.underlying3 hy1
 simp at e0 e1
 subst e0 e1
 exact ⟨a, b, rfl, rfl, rfl, wa, wb⟩
set_option maxRecDepth 100000 in
theorem shut_pt {x y : Int} (wa : (Lit.int .i64 x).wf = true) (wb : (Lit.int .i64 y).wf = true) : DataW.Trod enc Try.prog w base spare held 23 (.agg #[.int .i64 x, .int .i64 y]) (.agg [.lit (.int .i64 x), .lit (.int .i64 y)]) [] :=
 shut_agg2 (y0 := (.lit (.int .i64 x), [])) (y1 := (.lit (.int .i64 y), [])) Try.underlying23 (by kernel_rfl) cellsP ⟨1, by simp [DataW.trod, Try.underlying3, wa]⟩ ⟨1, by simp [DataW.trod, Try.underlying3, wb]⟩
end
set_option maxRecDepth 100000 in
theorem open_ptc {H : Type} {enc : TypeId × Value → H} {w : World} {base m : Nat} {spare : Nat → Bool} {held : Bool} {c0 c1 : Value} {z : DataW H × List MemPlace} (h : DataW.trod enc Try.prog w base spare held m 23 [c0, c1] = some z) :
  ∃ x y : Int, z = (.agg [.lit (.int .i64 x), .lit (.int .i64 y)], []) ∧ c0 = .int .i64 x ∧ c1 = .int .i64 y ∧ (Lit.int .i64 x).wf = true ∧ (Lit.int .i64 y).wf = true := by
 obtain ⟨y0, y1, n, hx, _, h0, h1⟩ := trod_struct2 Try.underlying23 h
 have k : Try.prog.cellsOf 3 = 1 := cellsI
 simp only [k] at h0 h1
 obtain ⟨a, e0, q0, wa⟩ := DataW.trod_int (fuel := n) (cs := [c0]) Try.underlying3 (by simpa using h0)
 obtain ⟨b, e1, q1, wb⟩ := DataW.trod_int (fuel := n) (cs := [c1]) Try.underlying3 (by simpa using h1)
 simp at e0 e1
 subst e0 e1 q0 q1
 exact ⟨a, b, hx, rfl, rfl, wa, wb⟩
theorem cellsP3 : Try.prog.cellsOf 24 = 6 := by kernel_rfl
theorem list3' {α : Type} {cs : Array α} (h : cs.size = 6) : ∃ c0 c1 c2 c3 c4 c5, cs = #[c0, c1, c2, c3, c4, c5] := by
 obtain ⟨l⟩ := cs
 match l, h with
 | [c0, c1, c2, c3, c4, c5], _ => exact ⟨c0, c1, c2, c3, c4, c5, rfl⟩
section
variable {H : Type} {enc : TypeId × Value → H} {w : World} {base b0 : Nat} {spare : Nat → Bool} {held : Bool} {r : Reach} {v : Value} {d : DataW H} {p : List MemPlace}
set_option maxRecDepth 100000 in
theorem open_pts3 (hv : Value.okWide Try.prog w r b0 24 v) (h : DataW.Trod enc Try.prog w base spare held 24 v d p) :
  ∃ x0 y0 x1 y1 x2 y2 : Int, v = .agg #[.int .i64 x0, .int .i64 y0, .int .i64 x1, .int .i64 y1, .int .i64 x2, .int .i64 y2] ∧ d = .agg [.agg [.lit (.int .i64 x0), .lit (.int .i64 y0)], .agg [.lit (.int .i64 x1), .lit (.int .i64 y1)], .agg [.lit (.int .i64 x2), .lit (.int .i64 y2)]] ∧ p = [] ∧ (Lit.int .i64 x0).wf = true ∧ (Lit.int .i64 y0).wf = true ∧ (Lit.int .i64 x1).wf = true ∧ (Lit.int .i64 y1).wf = true ∧ (Lit.int .i64 x2).wf = true ∧ (Lit.int .i64 y2).wf = true := by
 obtain ⟨cs, rfl, hsz⟩ : ∃ cs, v = .agg cs ∧ cs.size = Try.prog.cellsOf 24 := by
  simp only [Value.okWide, Try.underlying24] at hv
  obtain ⟨cs, h1, h2, _⟩ := hv
  exact ⟨cs, h1, h2⟩
 obtain ⟨c0, c1, c2, c3, c4, c5, rfl⟩ := list3' (hsz.trans cellsP3)
 obtain ⟨fuel, hf⟩ := h
 obtain ⟨xs, m, rfl, hx, hl, hn, hi⟩ := DataW.trod_array Try.underlying24 hf
 have q0 := hi 0 (by decide)
 rw [cellsP] at q0
 have q1 := hi 1 (by decide)
 rw [cellsP] at q1
 have q2 := hi 2 (by decide)
 rw [cellsP] at q2
 match xs, hn with
 | [z0, z1, z2], _ =>
  obtain ⟨x0, y0, r0, rfl, rfl, w0, v0⟩ := open_ptc (z := z0) (m := m) (c0 := c0) (c1 := c1) (by simpa [Value.cells] using q0)
  obtain ⟨x1, y1, r1, rfl, rfl, w1, v1⟩ := open_ptc (z := z1) (m := m) (c0 := c2) (c1 := c3) (by simpa [Value.cells] using q1)
  obtain ⟨x2, y2, r2, rfl, rfl, w2, v2⟩ := open_ptc (z := z2) (m := m) (c0 := c4) (c1 := c5) (by simpa [Value.cells] using q2)
  subst r0 r1 r2
  simp at hx
  obtain ⟨rfl, rfl⟩ := hx
  exact ⟨x0, y0, x1, y1, x2, y2, rfl, rfl, rfl, w0, v0, w1, v1, w2, v2⟩
set_option maxRecDepth 100000 in
theorem shut_pts3 {x0 y0 x1 y1 x2 y2 : Int} (w0 : (Lit.int .i64 x0).wf = true) (v0 : (Lit.int .i64 y0).wf = true) (w1 : (Lit.int .i64 x1).wf = true) (v1 : (Lit.int .i64 y1).wf = true) (w2 : (Lit.int .i64 x2).wf = true) (v2 : (Lit.int .i64 y2).wf = true) : DataW.Trod enc Try.prog w base spare held 24 (.agg #[.int .i64 x0, .int .i64 y0, .int .i64 x1, .int .i64 y1, .int .i64 x2, .int .i64 y2]) (.agg [.agg [.lit (.int .i64 x0), .lit (.int .i64 y0)], .agg [.lit (.int .i64 x1), .lit (.int .i64 y1)], .agg [.lit (.int .i64 x2), .lit (.int .i64 y2)]]) [] :=
 ⟨3, by simp [DataW.trod, Value.cells, Try.underlying24, Try.underlying23, Try.underlying3, cellsP3, cellsP, cellsI, w0, v0, w1, v1, w2, v2, show List.range 3 = [0, 1, 2] from rfl, show List.range 2 = [0, 1] from rfl]⟩
end
end Go.Proofs.Ytbanlhlggkdanaa
namespace Go.Proofs.Ytbanlhlggkdanaa
open Go.ChangeShapes Go.WideShapes Go.ChangeAt Go.RowKit Go.Joins
theorem u32_b {n : Int} (h : (Lit.int .u32 n).wf = true) : 0 ≤ n ∧ n < 4294967296 := by
 simp [Lit.wf, IntKind.min, IntKind.max] at h
 simp [IntKind.signed, IntKind.bits] at h
 omega
theorem i64_hi {n : Int} (h : (Lit.int .i64 n).wf = true) : n ≤ 9223372036854775807 := by
 have := i64_b h
 unfold I64 at this
 omega
theorem cellsA2 : Try.prog.cellsOf 46 = 2 := by kernel_rfl
theorem list2' {α : Type} {cs : Array α} (h : cs.size = 2) : ∃ c0 c1, cs = #[c0, c1] := by
 obtain ⟨l⟩ := cs
 match l, h with
 | [c0, c1], _ => exact ⟨c0, c1, rfl⟩
section
variable {H : Type} {enc : TypeId × Value → H} {w : World} {base b0 : Nat} {spare : Nat → Bool} {held : Bool} {r : Reach} {v : Value} {d : DataW H} {p : List MemPlace}
set_option maxRecDepth 100000 in
theorem open_arr2 (hv : Value.okWide Try.prog w r b0 46 v) (h : DataW.Trod enc Try.prog w base spare held 46 v d p) :
  ∃ a b : Int, v = .agg #[.int .i64 a, .int .i64 b] ∧ d = .agg [.lit (.int .i64 a), .lit (.int .i64 b)] ∧ p = [] ∧ (Lit.int .i64 a).wf = true ∧ (Lit.int .i64 b).wf = true := by
 obtain ⟨cs, rfl, hsz⟩ : ∃ cs, v = .agg cs ∧ cs.size = Try.prog.cellsOf 46 := by
  simp only [Value.okWide, Try.underlying46] at hv
  obtain ⟨cs, h1, h2, _⟩ := hv
  exact ⟨cs, h1, h2⟩
 obtain ⟨c0, c1, rfl⟩ := list2' (hsz.trans cellsA2)
 obtain ⟨fuel, hf⟩ := h
 obtain ⟨xs, m, rfl, hx, hl, hn, hi⟩ := DataW.trod_array Try.underlying46 hf
 have q0 := hi 0 (by decide)
 rw [cellsI] at q0
 have q1 := hi 1 (by decide)
 rw [cellsI] at q1
 match xs, hn with
 | [z0, z1], _ =>
  obtain ⟨x0, e0, r0, w0⟩ := DataW.trod_int (x := z0) (fuel := m) (cs := [c0]) Try.underlying3 (by simpa [Value.cells] using q0)
  obtain ⟨x1, e1, r1, w1⟩ := DataW.trod_int (x := z1) (fuel := m) (cs := [c1]) Try.underlying3 (by simpa [Value.cells] using q1)
  simp at e0 e1
  subst e0 e1 r0 r1
  simp at hx
  obtain ⟨rfl, rfl⟩ := hx
  exact ⟨x0, x1, rfl, rfl, rfl, w0, w1⟩
set_option maxRecDepth 100000 in
theorem shut_arr2 {a b : Int} (wa : (Lit.int .i64 a).wf = true) (wb : (Lit.int .i64 b).wf = true) : DataW.Trod enc Try.prog w base spare held 46 (.agg #[.int .i64 a, .int .i64 b]) (.agg [.lit (.int .i64 a), .lit (.int .i64 b)]) [] :=
 ⟨2, by simp [DataW.trod, Value.cells, Try.underlying46, Try.underlying3, cellsA2, cellsI, wa, wb, show List.range 2 = [0, 1] from rfl]⟩
end
end Go.Proofs.Ytbanlhlggkdanaa
