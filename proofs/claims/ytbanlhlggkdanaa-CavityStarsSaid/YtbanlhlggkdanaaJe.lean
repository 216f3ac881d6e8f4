/- What the law CavityStars needs. Part 5: the texts of C3 C6 T6 T7 T8 T1 V11 C4 C5 C7 C8 C9 C10 C11 C12 C15 RowS RowT. -/
import Derived.Test.YtbanlhlggkdanaaJd
import Derived.Sort.Grow
import Derived.Shelf.GgSortFunc.RowK
import Derived.Shelf.SlSortCmp.WholeK
import Derived.Ground.SlsfProg
import Derived.Laws.IdiomArrays
import Derived.OpenShut
import Derived.ProofKit
import Derived.Lib.SmallJoins
import Derived.Below
import Derived.ChangeSame
set_option linter.unusedSimpArgs false
set_option linter.unusedVariables false
namespace Go.Proofs.Ytbanlhlggkdanaa
open Go.RowKit
section
variable {E : Env} {Q : Qt} {σ : List (Nat × Value)} {μ φ : List Res}
theorem CJ_seqC {ι : Type} {F : ι → St} {I : ι → Prop} {x y : Code} (hx : CJ E (Exit.then (fun a w => ∃ i, I i ∧ OKa E (F i).σ a ∧ OKm E (F i).μ (F i).φ w) Q) x σ μ φ) (hy : ∀ i, I i → CJ E Q y (F i).σ (F i).μ (F i).φ) : CJ E Q (.seq x y) σ μ φ :=
 CJ_seq fun a w ha hm => wp_mono (hx a w ha hm) fun e a' w' q => by
  cases e with
  | normal =>
   obtain ⟨i, h1, h2, h3⟩ := q
   exact hy i h1 a' w' h2 h3
  | _ => exact q
theorem QJ_cut {ι : Type} {F : ι → St} {I : ι → Prop} (j : ι) {μr : List Res} (hI : I j) (hs : AllLk σ (F j).σ) (hp : List.Perm μ ((F j).μ ++ μr)) (hf : ∀ r, r ∈ (F j).φ → r ∈ φ) :
  QJ E (Exit.then (fun a w => ∃ i, I i ∧ OKa E (F i).σ a ∧ OKm E (F i).μ (F i).φ w) Q) .normal σ μ φ := fun _ _ ha hk => ⟨j, hI, ⟨ha.defs, ha.siz, ha.slots.weak hs⟩, hk.weak hp hf⟩
end
def cfN (pts : List (Int × Int)) (tris : List Tr) (p : Int × Int) (u : Nat) : Bool := match tris[u]? with
 | some t => cfB pts t p
 | none => false
theorem cfN_at {pts : List (Int × Int)} {tris : List Tr} {p : Int × Int} {u : Nat} {t : Tr} (h : tris[u]? = some t) : cfN pts tris p u = cfB pts t p := by unfold cfN; rw [h]
def lvT (tris : List Tr) (u : Nat) : Prop := ∃ t, tris[u]? = some t ∧ t.v0 ≠ -2
structure MsOk (pts : List (Int × Int)) (tris : List Tr) : Prop where
 ok : ∀ (n : Nat) (t : Tr), tris[n]? = some t → t.v0 ≠ -2 → cfOk pts.length t
 nb : ∀ (n : Nat) (t : Tr), tris[n]? = some t → t.v0 ≠ -2 → ∀ i, i < 3 → ∃ u : Nat, t.n i = (u : Int) ∧ lvT tris u
def clD (pts : List (Int × Int)) (tris : List Tr) (p : Int × Int) (D : Nat → Prop) : Prop := ∀ (n : Nat) (t : Tr), D n → tris[n]? = some t → ∀ i, i < 3 → ∀ u : Nat, t.n i = (u : Int) → t.fl i = false → cfN pts tris p u = true → D u
structure Bf (pts : List (Int × Int)) (tris : List Tr) (p : Int × Int) (I q : List Nat) (k i : Nat) : Prop where
 nd : q.Nodup
 lv : ∀ x, x ∈ q → lvT tris x
 ini : ∀ x, x ∈ I → x ∈ q
 mn : ∀ D : Nat → Prop, (∀ x, x ∈ I → D x) → clD pts tris p D → ∀ x, x ∈ q → D x
 cl : ∀ (j x : Nat) (t : Tr), q[j]? = some x → tris[x]? = some t → ∀ m, m < 3 → (j < k ∨ j = k ∧ m < i) → ∀ u : Nat, t.n m = (u : Int) → t.fl m = false → cfN pts tris p u = true → u ∈ q
section
variable {pts : List (Int × Int)} {tris : List Tr} {p : Int × Int} {I q : List Nat} {k i : Nat}
theorem Bf.start (h1 : I.Nodup) (h2 : ∀ x, x ∈ I → lvT tris x) : Bf pts tris p I I 0 0 :=
 ⟨h1, h2, fun _ h => h, fun _ h _ => h, fun j x t _ _ m _ h => absurd h (by omega)⟩
theorem Bf.skip (h : Bf pts tris p I q k i) {x : Nat} {t : Tr} {u : Nat} (hx : q[k]? = some x) (ht : tris[x]? = some t) (hu : t.n i = (u : Int)) (hs : u ∈ q ∨ t.fl i = true ∨ cfN pts tris p u = false) : Bf pts tris p I q k (i + 1) := by
 refine ⟨h.nd, h.lv, h.ini, h.mn, fun j y s hy hs' m hm hj w hw hf hc => ?_⟩
 by_cases e : j = k ∧ m = i
 ·obtain ⟨rfl, rfl⟩ := e
  rw [hx] at hy
  obtain rfl : x = y := Option.some.inj hy
  rw [ht] at hs'
  obtain rfl : t = s := Option.some.inj hs'
  have huw : u = w := by omega
  subst huw
  rcases hs with g | g | g
  ·exact g
  ·rw [g] at hf; cases hf
  ·rw [g] at hc; cases hc
 ·exact h.cl j y s hy hs' m hm (by omega) w hw hf hc
theorem Bf.push (h : Bf pts tris p I q k i) {x : Nat} {t : Tr} {u : Nat} (hi : i < 3) (hx : q[k]? = some x) (ht : tris[x]? = some t) (hu : t.n i = (u : Int)) (hn : ¬ u ∈ q) (hl : lvT tris u) (hf : t.fl i = false) (hc : cfN pts tris p u = true) : Bf pts tris p I (q ++ [u]) k (i + 1) := by
 have hkl := (List.getElem?_eq_some_iff.1 hx).1
 refine ⟨?_, ?_, fun y hy => List.mem_append_left _ (h.ini y hy), ?_, fun j y s hy hs' m hm hj w hw hf' hc' => ?_⟩
 ·rw [List.nodup_append]
  refine ⟨h.nd, by simp, fun a ha b hb => ?_⟩
  rw [List.mem_singleton] at hb
  subst hb
  exact fun e => hn (e ▸ ha)
 ·intro y hy
  rcases List.mem_append.1 hy with hy | hy
  ·exact h.lv y hy
  ·rw [List.mem_singleton] at hy; subst hy; exact hl
 ·intro D hD hcl y hy
  have hq := h.mn D hD hcl
  rcases List.mem_append.1 hy with hy | hy
  ·exact hq y hy
  ·rw [List.mem_singleton] at hy
   subst hy
   exact hcl x t (hq x (List.mem_of_getElem? hx)) ht i hi _ hu hf hc
 ·have hjl : j < q.length := by omega
  rw [List.getElem?_append_left hjl] at hy
  by_cases e : j = k ∧ m = i
  ·obtain ⟨rfl, rfl⟩ := e
   rw [hx] at hy
   obtain rfl : x = y := Option.some.inj hy
   rw [ht] at hs'
   obtain rfl : t = s := Option.some.inj hs'
   have huw : u = w := by omega
   subst huw
   exact List.mem_append_right _ (.head _)
  ·exact List.mem_append_left _ (h.cl j y s hy hs' m hm (by omega) w hw hf' hc')
theorem Bf.next (h : Bf pts tris p I q k 3) : Bf pts tris p I q (k + 1) 0 :=
 ⟨h.nd, h.lv, h.ini, h.mn, fun j x t hx ht m hm hj => h.cl j x t hx ht m hm (by omega)⟩
theorem Bf.len (h : Bf pts tris p I q k i) : q.length ≤ tris.length := by
 have := h.nd.length_le_of_subset (l₂ := List.range tris.length) (fun x hx => by
  obtain ⟨t, ht, _⟩ := h.lv x hx
  exact List.mem_range.2 (List.getElem?_eq_some_iff.1 ht).1)
 rw [List.length_range] at this
 exact this
structure DgOk (pts : List (Int × Int)) (tris : List Tr) (p : Int × Int) (I ts : List Nat) : Prop where
 so : ts.Pairwise (· < ·)
 lv : ∀ x, x ∈ ts → lvT tris x
 ini : ∀ x, x ∈ I → x ∈ ts
 mn : ∀ D : Nat → Prop, (∀ x, x ∈ I → D x) → clD pts tris p D → ∀ x, x ∈ ts → D x
 cl : clD pts tris p (· ∈ ts)
def toI (q : List Nat) : List Int := q.map (fun n : Nat => ((n : Nat) : Int))
def Nv (q : List Nat) : List Value := Iv (toI q)
theorem Nv_at {q : List Nat} {j x : Nat} (h : q[j]? = some x) : (Nv q)[j]? = some (.int .i64 (x : Int)) := Iv_at (by unfold toI; rw [List.getElem?_map, h]; rfl)
theorem Nv_app (q : List Nat) (u : Nat) : Nv q ++ [.int .i64 (u : Int)] = Nv (q ++ [u]) := by
 unfold Nv
 rw [Iv_app]
 simp [toI]
theorem toI_sort (q : List Nat) : ∃ ts : List Nat, toI ts = (toI q).mergeSort (fun x y => decide (x ≤ y)) ∧ ts.Perm q ∧ ts.Pairwise (· ≤ ·) := by
 refine ⟨((toI q).mergeSort (fun x y => decide (x ≤ y))).map Int.toNat, ?_, ?_, ?_⟩
 ·unfold toI
  rw [List.map_map]
  have : ∀ l : List Int, (∀ x, x ∈ l → 0 ≤ x) → l.map ((fun n : Nat => (n : Int)) ∘ Int.toNat) = l := by
   intro l
   induction l with
   | nil => intro _; rfl
   | cons a l ih =>
    intro h
    rw [List.map_cons, ih (fun x hx => h x (.tail _ hx)), Function.comp, Int.toNat_of_nonneg (h a (.head _))]
  exact this _ (fun x hx => by
   have hx2 := (List.mergeSort_perm _ _).mem_iff.1 hx
   obtain ⟨n, _, rfl⟩ := List.mem_map.1 hx2
   exact Int.natCast_nonneg n)
 ·have := (List.mergeSort_perm (toI q) (fun x y => decide (x ≤ y))).map Int.toNat
  refine this.trans ?_
  unfold toI
  rw [List.map_map]
  simp [Function.comp_def]
 ·rw [List.pairwise_map]
  have := List.pairwise_mergeSort (le := fun x y : Int => decide (x ≤ y)) (fun a b c h1 h2 => by
   rw [decide_eq_true_eq] at *; omega) (fun a b => by
   rw [Bool.or_eq_true, decide_eq_true_eq, decide_eq_true_eq]; omega) (toI q)
  exact this.imp (fun h => by have := of_decide_eq_true h; omega)
theorem Bf.done (h : Bf pts tris p I q q.length 0) {ts : List Nat} (hp : ts.Perm q) (hs : ts.Pairwise (· ≤ ·)) : DgOk pts tris p I ts where
 so := by
  have hn := hp.nodup_iff.2 h.nd
  exact hs.imp₂ (fun {a b} h1 h2 => by omega) hn
 lv x hx := h.lv x (hp.mem_iff.1 hx)
 ini x hx := hp.mem_iff.2 (h.ini x hx)
 mn D hD hc x hx := h.mn D hD hc x (hp.mem_iff.1 hx)
 cl n t hn ht i hi u hu hf hc := by
  obtain ⟨j, hj⟩ := List.mem_iff_getElem?.1 (hp.mem_iff.1 hn)
  exact hp.mem_iff.2 (h.cl j n t hj ht i hi (.inl (List.getElem?_eq_some_iff.1 hj).1) u hu hf hc)
end
abbrev MB := List (Int × Bool × Nat)
def InL (L : MB) (q : List Nat) : Prop := ∀ x : Int, (mget x L).getD false = decide (∃ u : Nat, u ∈ q ∧ x = (u : Int))
theorem InL.nil : InL [] [] := fun x => by simp [mget, mfind]
theorem InL.put {L : MB} {q : List Nat} (h : InL L q) (u c : Nat) : InL (mput (u : Int) true L c) (q ++ [u]) := fun x => by
 rw [mget_mput]
 by_cases e : x = (u : Int)
 ·subst e
  rw [if_pos rfl]
  simp
 ·rw [if_neg e, h x]
  rw [decide_eq_decide]
  constructor
  ·rintro ⟨v, hv, rfl⟩
   exact ⟨v, List.mem_append_left _ hv, rfl⟩
  ·rintro ⟨v, hv, rfl⟩
   rcases List.mem_append.1 hv with hv | hv
   ·exact ⟨v, hv, rfl⟩
   ·rw [List.mem_singleton] at hv; subst hv; exact absurd rfl e
theorem InL.at {L : MB} {q : List Nat} (h : InL L q) (u : Nat) : (mget (u : Int) L).getD false = decide (u ∈ q) := by
 rw [h, decide_eq_decide]
 constructor
 ·rintro ⟨v, hv, e⟩
  have : u = v := by omega
  subst this
  exact hv
 ·exact fun hu => ⟨u, hu, rfl⟩
def gBo (b : Bool) : Value := .bool b
theorem getD_mapB {o : Option Bool} : (o.map gBo).getD (.bool false) = .bool (o.getD false) := by cases o <;> rfl
abbrev Sd := Int × Int × Int × Int × Bool
def Sd.cells (s : Sd) : List Value := [.int .i64 s.1, .int .i64 s.2.1, .int .i64 s.2.2.1, .int .i64 s.2.2.2.1, .bool s.2.2.2.2]
def gS (s : Sd) : Value := .agg #[.int .i64 s.1, .int .i64 s.2.1, .int .i64 s.2.2.1, .int .i64 s.2.2.2.1, .bool s.2.2.2.2]
def sdCells (l : List Sd) : List Value := l.flatMap Sd.cells
abbrev MS := List (Int × Sd × Nat)
def sd0 : Sd := (0, 0, 0, 0, false)
theorem getD_mapS {o : Option Sd} : (o.map gS).getD (.agg #[.int .i64 0, .int .i64 0, .int .i64 0, .int .i64 0, .bool false]) = gS (o.getD sd0) := by cases o <;> rfl
theorem sdCells_app (l : List Sd) (s : Sd) : sdCells l ++ [.int .i64 s.1, .int .i64 s.2.1, .int .i64 s.2.2.1, .int .i64 s.2.2.2.1, .bool s.2.2.2.2] = sdCells (l ++ [s]) := by
 rw [sdCells, sdCells, List.flatMap_append]
 simp [Sd.cells]
def sdOf (tris : List Tr) (t : Tr) (x k : Nat) : Sd := (t.v ((k + 1) % 3), t.v ((k + 2) % 3), t.n k, (match tris[(t.n k).toNat]? with
 | some o => Lib.idxOf [o.n0, o.n1, o.n2] (x : Int)
 | none => 0), t.fl k)
def sdK (tris : List Tr) (q : List Nat) (t : Tr) (x k : Nat) : List Sd := (List.range k).flatMap fun i => if (t.n i).toNat ∈ q then [] else [sdOf tris t x i]
def sdT (tris : List Tr) (q : List Nat) (x : Nat) : List Sd := match tris[x]? with
 | some t => sdK tris q t x 3
 | none => []
def sdL (tris : List Tr) (q ts : List Nat) : List Sd := ts.flatMap (sdT tris q)
def dStep (cf : Nat → Bool) (s : MS × Nat × Int × Bool) (e : Sd) : MS × Nat × Int × Bool := (mput e.1 e s.1 s.2.1, mclk e.1 s.1 s.2.1, min s.2.2.1 e.1, s.2.2.2 || (e.2.2.2.2 && cf e.2.2.1.toNat))
def dFold (cf : Nat → Bool) (n0 : Int) (l : List Sd) : MS × Nat × Int × Bool := l.foldl (dStep cf) ([], 0, n0, false)
theorem dFold_app (cf : Nat → Bool) (n0 : Int) (l : List Sd) (e : Sd) : dFold cf n0 (l ++ [e]) = dStep cf (dFold cf n0 l) e := by
 unfold dFold
 rw [List.foldl_append]
 rfl
theorem sdK_in {tris : List Tr} {q : List Nat} {t : Tr} {x k u : Nat} (hu : t.n k = (u : Int)) (h : u ∈ q) : sdK tris q t x (k + 1) = sdK tris q t x k := by
 unfold sdK
 rw [List.range_succ, List.flatMap_append]
 simp [hu, h]
theorem sdK_out {tris : List Tr} {q : List Nat} {t o : Tr} {x k u : Nat} (hu : t.n k = (u : Int)) (h : ¬ u ∈ q) (ho : tris[u]? = some o) : sdK tris q t x (k + 1) = sdK tris q t x k ++ [(t.v ((k + 1) % 3), t.v ((k + 2) % 3), (u : Int), Lib.idxOf [o.n0, o.n1, o.n2] (x : Int), t.fl k)] := by
 unfold sdK
 rw [List.range_succ, List.flatMap_append]
 simp [hu, h, sdOf, ho]
theorem sdL_snoc {tris : List Tr} {q : List Nat} {ts : List Nat} {j x : Nat} {t : Tr} (hx : ts[j]? = some x) (ht : tris[x]? = some t) : sdL tris q (ts.take (j + 1)) = sdL tris q (ts.take j) ++ sdK tris q t x 3 := by
 unfold sdL
 rw [List.take_add_one, hx, List.flatMap_append]
 simp [sdT, ht]
def getS (L : MS) (a : Int) : Sd := (mget a L).getD sd0
def itS (L : MS) : Nat → Int → Int
 | 0, a => a
 | i + 1, a => (getS L (itS L i a)).2.1
def rimL (L : MS) (a : Int) (n : Nat) : List Sd := (List.range n).map fun i => getS L (itS L i a)
theorem rimL_len (L : MS) (a : Int) (n : Nat) : (rimL L a n).length = n := by unfold rimL; rw [List.length_map, List.length_range]
theorem rimL_succ (L : MS) (a : Int) (n : Nat) : rimL L a (n + 1) = rimL L a n ++ [getS L (itS L n a)] := by
 unfold rimL
 rw [List.range_succ, List.map_append]
 rfl
def dSt (pts : List (Int × Int)) (tris : List Tr) (p : Int × Int) (ts : List Nat) : MS × Nat × Int × Bool := dFold (cfN pts tris p) (pts.length : Nat) (sdL tris ts ts)
def rimOf (pts : List (Int × Int)) (tris : List Tr) (p : Int × Int) (ts : List Nat) : List Sd := rimL (dSt pts tris p ts).1 (dSt pts tris p ts).2.2.1 (dSt pts tris p ts).1.length
def cutOf (pts : List (Int × Int)) (tris : List Tr) (p : Int × Int) (ts : List Nat) : Bool := (dSt pts tris p ts).2.2.2
end Go.Proofs.Ytbanlhlggkdanaa
namespace Go.Proofs.Ytbanlhlggkdanaa
open Go.RowKit
def trV (v : T3) : Tr := ⟨v.1, v.2.1, v.2.2, -1, -1, -1, false, false, false⟩
def cfV (pts : List (Int × Int)) (v : T3) (p : Int × Int) : Bool := cfB pts (trV v) p
def hdV (pts : List (Int × Int)) (v : T3) (p : Int × Int) : Bool := decide (hld pts (trV v) p)
def egV (pts : List (Int × Int)) (v : T3) (k : Nat) (p : Int × Int) : Bool := decide (edge pts (trV v) k p)
def rvB (v : T3) : Bool := decide (rv v)
def okC (n0 : Int) (C : List T3) : Bool :=
 let E := openE C
 let m := minE E n0
 let w := (List.range E.length).map fun i => itE E i m
 decide ((E.map (·.1)).Nodup) && (decide w.Nodup && (decide (itE E E.length m = m) && (w.all (fun a => E.any fun e => decide (e.1 = a)) && decide (0 < E.length ∧ ((E.filter fun e => decide (e.1 = -1 ∨ e.2 = -1)).length = 0 ∨ (E.filter fun e => decide (e.1 = -1 ∨ e.2 = -1)).length = 2)))))
def geoC (pts : List (Int × Int)) (p : Int × Int) (C : List T3) : Bool :=
 let E := openE C
 E.all (fun e => decide (e.1 < 0 ∨ e.2 < 0 ∨ 0 < A2 (ptAt pts e.1).1 (ptAt pts e.1).2 (ptAt pts e.2).1 (ptAt pts e.2).2 p.1 p.2)) &&
 (C.any (fun v => !rvB v) || (decide ((C.map fun v => A2p pts v.1 v.2.1 v.2.2).sum = (E.map fun e => A2 p.1 p.2 (ptAt pts e.1).1 (ptAt pts e.1).2 (ptAt pts e.2).1 (ptAt pts e.2).2).sum) && decide (E.length = C.length + 2)))
def subs : List T3 → List (List T3)
 | [] => [[]]
 | x :: l => subs l ++ (subs l).map (x :: ·)
def inK (W H : Nat) (f : Nat → Bool) (p : Int × Int) (v : T3) (k : Nat) : Bool :=
 let P := gPts W H; let T := gTris W H f; let G := gAll W H f
 let I := G.filter fun x => decide (x = v) || decide (rev2 (kv v k) ∈ eds x)
 G.all (fun x => rvB x || (!cfV P x p || decide (x ∈ I))) && (decide (I.length = 2) && (subs (T.filter fun x => cfV P x p && !decide (x ∈ I))).all fun S => let C := G.filter (fun x => decide (x ∈ I) || decide (x ∈ S)); okC P.length C && geoC P p C)
def inP (W H : Nat) (f : Nat → Bool) (p : Int × Int) : Bool :=
 let P := gPts W H; let T := gTris W H f
 T.any (fun v => hdV P v p) && (decide (p ∈ P) || T.all fun v => !hdV P v p || (!decide (ptAt P v.1 = p) && (!decide (ptAt P v.2.1 = p) && (!decide (ptAt P v.2.2 = p) &&
  (if egV P v 0 p then inK W H f p v 0 else if egV P v 1 p then inK W H f p v 1 else if egV P v 2 p then inK W H f p v 2 else false)))))
def inB (W H : Nat) (f : Nat → Bool) : Bool := (List.range (2 * W + 1)).all fun x => (List.range (2 * H + 1)).all fun y => inP W H f ((x : Int), (y : Int))
def sdV (pts : List (Int × Int)) (W H : Nat) (v : T3) : Nat :=
 let b := ptAt pts v.1; let a := ptAt pts v.2.1
 if b.1 = 0 ∧ a.1 = 0 ∧ a.2 = b.2 + 2 then 0 else if b.1 = 2 * W ∧ a.1 = 2 * W ∧ a.2 = b.2 - 2 then 1 else if b.2 = 0 ∧ a.2 = 0 ∧ a.1 = b.1 - 2 then 2 else if b.2 = 2 * H ∧ a.2 = 2 * H ∧ a.1 = b.1 + 2 then 3 else 4
def bySd (bL bR bB bT : Bool) (s : Nat) : Bool := if s = 0 then bL else if s = 1 then bR else if s = 2 then bB else if s = 3 then bT else false
def reach (K : List T3) : Nat → List T3 → List T3
 | 0, R => R
 | n + 1, R => reach K n (K.filter fun x => decide (x ∈ R) || R.any fun r => (eds r).any fun e => decide (e.1 = -1 ∨ e.2 = -1) && decide (rev2 e ∈ eds x))
def outC (W H : Nat) (f : Nat → Bool) (bL bR bB bT : Bool) : Bool :=
 let P := gPts W H; let G := gAll W H f
 let K := G.filter fun x => !rvB x && bySd bL bR bB bT (sdV P W H x)
 okC P.length K && (K.all (fun g => K.all fun x => decide (x ∈ reach K 8 [g])) && decide (0 < K.length))
def outB (W H : Nat) (f : Nat → Bool) : Bool :=
 let P := gPts W H; let G := gAll W H f
 G.all (fun v => rvB v || (decide (v.2.2 = -1) && decide (sdV P W H v < 4))) &&
 (outC W H f true false false false && (outC W H f false true false false && (outC W H f false false true false && (outC W H f false false false true && (outC W H f true false true false && (outC W H f true false false true && (outC W H f false true true false && outC W H f false true false true)))))))
set_option maxRecDepth 100000 in
theorem outB_all : ∀ b0 b1 b2 b3 : Bool, outB 1 1 (bit4 b0 b1 b2 b3) = true ∧ outB 1 2 (bit4 b0 b1 b2 b3) = true ∧ outB 2 1 (bit4 b0 b1 b2 b3) = true ∧ outB 2 2 (bit4 b0 b1 b2 b3) = true := by decide +kernel
set_option maxRecDepth 100000 in
theorem inB_all : ∀ b0 b1 b2 b3 : Bool, inB 1 1 (bit4 b0 b1 b2 b3) = true ∧ inB 1 2 (bit4 b0 b1 b2 b3) = true ∧ inB 2 1 (bit4 b0 b1 b2 b3) = true ∧ inB 2 2 (bit4 b0 b1 b2 b3) = true := by decide +kernel
end Go.Proofs.Ytbanlhlggkdanaa
namespace Go.Proofs.Ytbanlhlggkdanaa
open Go.RowKit Go.Sort
abbrev Ed := Int × Int × Bool × Bool
def Ed.cells (e : Ed) : List Value := [.int .i64 e.1, .int .i64 e.2.1, .bool e.2.2.1, .bool e.2.2.2]
def Ed.ok (e : Ed) : Prop := (0 ≤ e.1 ∧ e.1 < 1024) ∧ 0 ≤ e.2.1 ∧ e.2.1 < 1024
def edLt (x y : Ed) : Prop := x.1 < y.1 ∨ (x.1 = y.1 ∧ x.2.1 < y.2.1)
end Go.Proofs.Ytbanlhlggkdanaa
namespace Go.Proofs
open Go.Shelf Go.RowKit Go.Lib Go.Sort
end Go.Proofs
namespace Go.Proofs.Ytbanlhlggkdanaa
open Go.Shelf Go.RowKit Go.Lib Go.Sort
end Go.Proofs.Ytbanlhlggkdanaa
namespace Go.Proofs.Ytbanlhlggkdanaa
open Go.RowKit
def emit (tris : List Tr) (t : Tr) (k : Nat) : List Ed :=
 if ¬ isReal tris (t.n k) ∨ t.v ((k + 1) % 3) < t.v ((k + 2) % 3) then [(min (t.v ((k + 1) % 3)) (t.v ((k + 2) % 3)), max (t.v ((k + 1) % 3)) (t.v ((k + 2) % 3)), t.fl k, !decide (isReal tris (t.n k)))] else []
def emK (tris : List Tr) (t : Tr) (k : Nat) : List Ed := (List.range k).flatMap (emit tris t)
def edL (tris : List Tr) (l : List (Nat × Tr)) : List Ed := l.flatMap fun x => emK tris x.2 3
section
variable {E : Env} {Q : Qt} {σ : List (Nat × Value)} {μ φ : List Res} {ops : Array Oper} {rest : List Oper} {cd : Code}
end
end Go.Proofs.Ytbanlhlggkdanaa
namespace Go.Proofs.Ytbanlhlggkdanaa
open Go.RowKit
end Go.Proofs.Ytbanlhlggkdanaa
namespace Go.Proofs.Ytbanlhlggkdanaa
open Go.RowKit
def emV (TE : List (Int × Int)) (v : T3) : List (Int × Int × Bool) := [0, 1, 2].flatMap fun k => if ¬ rev2 (kv v k) ∈ TE ∨ (kv v k).1 < (kv v k).2 then [(min (kv v k).1 (kv v k).2, max (kv v k).1 (kv v k).2, !decide (rev2 (kv v k) ∈ TE))] else []
def key3 (e : Ed) : Int × Int × Bool := (e.1, e.2.1, e.2.2.2)
theorem emV_congr {TE TE' : List (Int × Int)} (h : ∀ e, e ∈ TE ↔ e ∈ TE') (v : T3) : emV TE v = emV TE' v := by
 unfold emV
 simp only [h]
section
variable {F : MapI} {tris : List Tr} {V : List (Nat × T3)} {n : Nat}
theorem mem_edsk {v : T3} {e : Int × Int} : e ∈ eds v ↔ ∃ k, k < 3 ∧ kv v k = e := by
 constructor
 ·intro h
  simp only [eds, List.mem_cons, List.not_mem_nil, or_false] at h
  rcases h with q | q | q
  ·exact ⟨0, by decide, q.symm⟩
  ·exact ⟨1, by decide, q.symm⟩
  ·exact ⟨2, by decide, q.symm⟩
 ·rintro ⟨k, hk, rfl⟩
  match k, hk with
  | 0, _ => exact .head _
  | 1, _ => exact .tail _ (.head _)
  | 2, _ => exact .tail _ (.tail _ (.head _))
theorem LM.real_nb (h : LM F tris V) (hT : TG n (V.map (·.2))) {x : Nat × T3} (hx : x ∈ V) {t : Tr} (ht : tris[x.1]? = some t) {k : Nat} (hk : k < 3) : isReal tris (t.n k) ↔ rev2 (kv x.2 k) ∈ ((V.map (·.2)).filter (fun v => decide (rv v))).flatMap eds := by
 obtain ⟨y, hy, j, hj, he2, hn, _⟩ := h.across hT hx ht hk
 rw [hn, h.real_at hy, List.mem_flatMap]
 constructor
 ·intro hr
  exact ⟨y.2, List.mem_filter.2 ⟨List.mem_map.2 ⟨y, hy, rfl⟩, by simpa using hr⟩, mem_edsk.2 ⟨j, hj, he2⟩⟩
 ·rintro ⟨w, hw, hwe⟩
  rw [List.mem_filter] at hw
  obtain ⟨hw1, hw2⟩ := hw
  obtain ⟨z, hz, rfl⟩ := List.mem_map.1 hw1
  obtain ⟨m, hm, hzm⟩ := mem_edsk.1 hwe
  have hyz := (h.un y hy j hj z hz m hm (he2.trans hzm.symm)).1
  rw [hyz]
  simpa using hw2
theorem t_kv (t : Tr) (k : Nat) : kv (t.v0, t.v1, t.v2) k = (t.v ((k + 1) % 3), t.v ((k + 2) % 3)) := rfl
theorem LM.em3 (h : LM F tris V) (hT : TG n (V.map (·.2))) {q : Nat} {t : Tr} (hx : (q, (t.v0, t.v1, t.v2)) ∈ V) (ht : tris[q]? = some t) : (emK tris t 3).map key3 = emV (((V.map (·.2)).filter (fun v => decide (rv v))).flatMap eds) (t.v0, t.v1, t.v2) := by
 have key : ∀ k, k < 3 → (emit tris t k).map key3 = if ¬ rev2 (kv (t.v0, t.v1, t.v2) k) ∈ ((V.map (·.2)).filter (fun v => decide (rv v))).flatMap eds ∨ (kv (t.v0, t.v1, t.v2) k).1 < (kv (t.v0, t.v1, t.v2) k).2 then [(min (kv (t.v0, t.v1, t.v2) k).1 (kv (t.v0, t.v1, t.v2) k).2, max (kv (t.v0, t.v1, t.v2) k).1 (kv (t.v0, t.v1, t.v2) k).2, !decide (rev2 (kv (t.v0, t.v1, t.v2) k) ∈ ((V.map (·.2)).filter (fun v => decide (rv v))).flatMap eds))] else [] := by
  intro k hk
  have hr := h.real_nb hT hx ht hk
  dsimp only at hr
  unfold emit
  rw [t_kv] at *
  simp only [hr]
  split <;> simp [key3]
 unfold emK emV
 rw [show List.range 3 = [0, 1, 2] from rfl]
 simp only [List.flatMap_cons, List.flatMap_nil, List.map_append, List.append_nil]
 rw [key 0 (by decide), key 1 (by decide), key 2 (by decide)]
theorem LM.realV (h : LM F tris V) (hT : TG n (V.map (·.2))) : ((reals tris).map (fun x => ((x.2.v0, x.2.v1, x.2.v2) : T3))).Perm ((V.map (·.2)).filter (fun v => decide (rv v))) := by
 have e1 : ((reals tris).map (fun x => ((x.1, (x.2.v0, x.2.v1, x.2.v2)) : Nat × T3))).Perm (V.filter (fun x => decide (rv x.2))) := by
  rw [show reals tris = realsF 0 tris from rfl, realsF_lv]
  exact (h.perm hT).filter _
 have e2 := e1.map (·.2)
 rw [List.map_map] at e2
 rw [List.filter_map]
 exact e2
theorem LM.edP (h : LM F tris V) (hT : TG n (V.map (·.2))) : ((edL tris (reals tris)).map key3).Perm (((V.map (·.2)).filter (fun v => decide (rv v))).flatMap (emV (((V.map (·.2)).filter (fun v => decide (rv v))).flatMap eds))) := by
 have e : (edL tris (reals tris)).map key3 = ((reals tris).map (fun x => ((x.2.v0, x.2.v1, x.2.v2) : T3))).flatMap (emV (((V.map (·.2)).filter (fun v => decide (rv v))).flatMap eds)) := by
  unfold edL
  rw [List.map_flatMap, List.flatMap_map]
  have : ∀ l : List (Nat × Tr), (∀ x, x ∈ l → x ∈ reals tris) → l.flatMap (fun x => (emK tris x.2 3).map key3) = l.flatMap (fun x => emV (((V.map (·.2)).filter (fun v => decide (rv v))).flatMap eds) (x.2.v0, x.2.v1, x.2.v2)) := by
   intro l
   induction l with
   | nil => intro _; rfl
   | cons x l ih =>
    intro hl
    obtain ⟨q, t⟩ := x
    obtain ⟨g1, g2, _⟩ := h.mem_real.1 (hl _ (.head _))
    rw [List.flatMap_cons, List.flatMap_cons, ih (fun y hy => hl y (.tail _ hy)), h.em3 hT g2 g1]
  exact this _ (fun _ h => h)
 rw [e]
 exact (h.realV hT).flatMap_right _
end
def eB (W H : Nat) (f : Nat → Bool) : Bool :=
 let T := gTris W H f
 let E := T.flatMap (emV (T.flatMap eds))
 let l := hullV (openE T) (gPts W H).length
 decide ((gAll W H f).filter (fun v => decide (rv v)) = T) && (decide ((E.map fun e => (e.1, e.2.1)).Nodup) && (E.all (fun e => decide (0 ≤ e.1 ∧ e.1 < e.2.1 ∧ e.2.1 < 1024)) && (decide (E.length + 1 = (gPts W H).length + T.length) && (decide ((E.filter (·.2.2)).length = l.length) && (decide (l[0]? = some 0) &&
 (List.range l.length).all (fun i => decide ((l.getD i 0, l.getD ((i + 1) % l.length) 0) ∈ openE T)))))))
theorem eB_all : ∀ b0 b1 b2 b3 : Bool, eB 1 1 (bit4 b0 b1 b2 b3) = true ∧ eB 1 2 (bit4 b0 b1 b2 b3) = true ∧ eB 2 1 (bit4 b0 b1 b2 b3) = true ∧ eB 2 2 (bit4 b0 b1 b2 b3) = true := by decide +kernel
theorem eB_true {W H : Nat} {f : Nat → Bool} (hW : W = 1 ∨ W = 2) (hH : H = 1 ∨ H = 2) : eB W H f = true := by
 have := eB_all (f 0) (f 1) (f 2) (f 3)
 unfold eB gAll at this ⊢
 rw [gTris_nf hW hH]
 rcases hW with rfl | rfl <;> rcases hH with rfl | rfl
 ·exact this.1
 ·exact this.2.1
 ·exact this.2.2.1
 ·exact this.2.2.2
theorem at_nodup {α : Type} {l : List α} (hn : l.Nodup) {i j : Nat} {a : α} (h1 : l[i]? = some a) (h2 : l[j]? = some a) : i = j :=
 (List.getElem?_inj (List.getElem?_eq_some_iff.1 h1).1 hn).1 (h1.trans h2.symm)
instance (x y : Ed) : Decidable (edLt x y) := by unfold edLt; infer_instance
section
variable {F : MapI} {W H : Nat} {f : Nat → Bool} {M : MD} {V : List (Nat × T3)}
theorem GM.eall (h : GM F W H f M V) (hW : W = 1 ∨ W = 2) (hH : H = 1 ∨ H = 2) : ((edL M.tris (reals M.tris)).map (fun e => (e.1, e.2.1))).Nodup ∧ (∀ e, e ∈ edL M.tris (reals M.tris) → 0 ≤ e.1 ∧ e.1 < e.2.1 ∧ e.2.1 < 1024) ∧ (edL M.tris (reals M.tris)).length + 1 = M.pts.length + (reals M.tris).length ∧
  ((edL M.tris (reals M.tris)).filter (·.2.2.2)).length = (hullV (openE (gTris W H f)) (gPts W H).length).length ∧ (reals M.tris).length = (gTris W H f).length ∧ (hullV (openE (gTris W H f)) (gPts W H).length)[0]? = some 0 ∧
  ∀ i, i < (hullV (openE (gTris W H f)) (gPts W H).length).length → ((hullV (openE (gTris W H f)) (gPts W H).length).getD i 0, (hullV (openE (gTris W H f)) (gPts W H).length).getD ((i + 1) % (hullV (openE (gTris W H f)) (gPts W H).length).length) 0) ∈ openE (gTris W H f) := by
 have hb := eB_true (f := f) hW hH
 unfold eB at hb
 simp only [Bool.and_eq_true, decide_eq_true_eq, List.all_eq_true, List.mem_range] at hb
 obtain ⟨b1, b2, b3, b4, b5, b6, b7⟩ := hb
 have hT : ((V.map (·.2)).filter (fun v => decide (rv v))).Perm (gTris W H f) := by
  have := h.pm.filter (fun v => decide (rv v))
  rw [b1] at this
  exact this
 have hp := h.lm.edP h.tg
 have hq : ((edL M.tris (reals M.tris)).map key3).Perm ((gTris W H f).flatMap (emV ((gTris W H f).flatMap eds))) := by
  refine hp.trans ?_
  have e : emV (((V.map (·.2)).filter (fun v => decide (rv v))).flatMap eds) = emV ((gTris W H f).flatMap eds) := funext fun v => emV_congr (fun e => (hT.flatMap_right eds).mem_iff) v
  rw [e]
  exact hT.flatMap_right _
 have hrl : (reals M.tris).length = (gTris W H f).length := by
  have := ((h.lm.realV h.tg).trans hT).length_eq
  rw [List.length_map] at this
  exact this
 refine ⟨?_, fun e he => ?_, ?_, ?_, hrl, b6, b7⟩
 ·have e := hq.map (fun x => (x.1, x.2.1))
  rw [List.map_map] at e
  exact e.nodup_iff.2 b2
 ·exact b3 _ (hq.mem_iff.1 (List.mem_map.2 ⟨e, he, rfl⟩))
 ·have e := hq.length_eq
  rw [List.length_map] at e
  rw [hrl, h.pts, e]
  exact b4
 ·have e := (hq.filter (·.2.2)).length_eq
  rw [List.filter_map, List.length_map] at e
  exact (show _ = _ from e).trans b5
theorem GM.e0 (h : GM F W H f M V) (hW : W = 1 ∨ W = 2) (hH : H = 1 ∨ H = 2) : 0 < (edL M.tris (reals M.tris)).length := by
 obtain ⟨_, _, e3, _, _, _, _⟩ := h.eall hW hH
 have : 4 ≤ M.pts.length := by
  rw [h.pts]
  rcases hW with rfl | rfl <;> rcases hH with rfl | rfl <;> decide
 omega
theorem GM.edge (h : GM F W H f M V) {e : Ed} (he : e ∈ edL M.tris (reals M.tris)) : ∃ y, y ∈ V ∧ ∃ j, j < 3 ∧ ∃ y', y' ∈ V ∧ ∃ j', j' < 3 ∧ ∃ t t', M.tris[y.1]? = some t ∧ M.tris[y'.1]? = some t' ∧ kv y.2 j = (e.1, e.2.1) ∧ kv y'.2 j' = (e.2.1, e.1) ∧ t.fl j = e.2.2.1 ∧ t'.fl j' = e.2.2.1 ∧ e.2.2.2 = (!decide (isReal M.tris (y.1 : Int)) || !decide (isReal M.tris (y'.1 : Int))) := by
 obtain ⟨⟨q, t⟩, hx, hk⟩ := List.mem_flatMap.1 he
 obtain ⟨ht, hV, hr⟩ := h.lm.mem_real.1 hx
 obtain ⟨k, hk3, hke⟩ := List.mem_flatMap.1 hk
 have hk3 : k < 3 := List.mem_range.1 hk3
 dsimp only at hke
 unfold emit at hke
 split at hke
 ·rename_i hor
  rw [List.mem_singleton] at hke
  obtain ⟨y, hy, j, hj, he2, hn, _, o, ho, hov, _, hof⟩ := h.lm.across h.tg hV ht hk3
  dsimp only at he2
  rw [t_kv] at he2
  have hq : isReal M.tris (q : Int) := (h.lm.real_at hV).2 hr
  rcases Int.le_total (t.v ((k + 1) % 3)) (t.v ((k + 2) % 3)) with hc | hc
  ·refine ⟨_, hV, k, hk3, y, hy, j, hj, t, o, ht, ho, ?_, ?_, ?_, ?_, ?_⟩
   ·rw [hke, t_kv, Int.min_eq_left hc, Int.max_eq_right hc]
   ·rw [hke, he2, Int.min_eq_left hc, Int.max_eq_right hc]
   ·rw [hke]
   ·rw [hke]; exact hof
   ·rw [hke, hn, decide_eq_true hq]; rfl
  ·refine ⟨y, hy, j, hj, _, hV, k, hk3, o, t, ho, ht, ?_, ?_, ?_, ?_, ?_⟩
   ·rw [hke, he2, Int.min_eq_right hc, Int.max_eq_left hc]
   ·rw [hke, t_kv, Int.min_eq_right hc, Int.max_eq_left hc]
   ·rw [hke]; exact hof
   ·rw [hke]
   ·rw [hke, hn, decide_eq_true hq]; simp
 ·cases hke
theorem GM.bord (h : GM F W H f M V) (hW : W = 1 ∨ W = 2) (hH : H = 1 ∨ H = 2) {a b : Int} (he : (a, b) ∈ openE (gTris W H f)) : ∃ y, y ∈ V ∧ ∃ j, j < 3 ∧ ∃ y', y' ∈ V ∧ ∃ j', j' < 3 ∧ ∃ t t', M.tris[y.1]? = some t ∧ M.tris[y'.1]? = some t' ∧ kv y.2 j = (a, b) ∧ kv y'.2 j' = (b, a) ∧ isReal M.tris (y.1 : Int) ∧ ¬ isReal M.tris (y'.1 : Int) := by
 have hb := eB_true (f := f) hW hH
 unfold eB at hb
 simp only [Bool.and_eq_true, decide_eq_true_eq] at hb
 obtain ⟨b1, _⟩ := hb
 have hT : ((V.map (·.2)).filter (fun v => decide (rv v))).Perm (gTris W H f) := by
  have := h.pm.filter (fun v => decide (rv v))
  rw [b1] at this
  exact this
 rw [mem_openE] at he
 obtain ⟨h1, h2⟩ := he
 rw [← (hT.flatMap_right eds).mem_iff] at h1 h2
 obtain ⟨w, hw, hwe⟩ := List.mem_flatMap.1 h1
 rw [List.mem_filter] at hw
 obtain ⟨hw1, hw2⟩ := hw
 obtain ⟨x, hx, rfl⟩ := List.mem_map.1 hw1
 obtain ⟨k, hk, hke⟩ := mem_edsk.1 hwe
 obtain ⟨t, ht, _⟩ := h.lm.get hx
 obtain ⟨y, hy, j, hj, he2, hn, _, o, ho, _, _, _⟩ := h.lm.across h.tg hx ht hk
 refine ⟨x, hx, k, hk, y, hy, j, hj, t, o, ht, ho, hke, by rw [he2, hke], (h.lm.real_at hx).2 (by simpa using hw2), fun hr => ?_⟩
 rw [← hn] at hr
 have := (h.lm.real_nb h.tg hx ht hk).1 hr
 rw [hke] at this
 exact h2 this
end
end Go.Proofs.Ytbanlhlggkdanaa
namespace Go.Proofs.Ytbanlhlggkdanaa
open Go.RowKit
theorem ent_42 : Enter Try.prog 42 = true := by kernel_rfl
theorem zer_85 : zer Try.prog 85 = some (.agg #[.slice none 0 0, .slice none 0 0, .bool false]) := by kernel_rfl
theorem lay_85 : lay1 Try.prog 85 = some [.slice none 0 0, .slice none 0 0, .bool false] := by kernel_rfl
theorem tyi_85 : tyi Try.prog 85 = some (true, 3) := by kernel_rfl
theorem fld_42_0 : fld Try.prog 42 0 = some 0 := by kernel_rfl
theorem fld_85_0 : fld Try.prog 85 0 = some 0 := by kernel_rfl
theorem fld_42_2 : fld Try.prog 42 2 = some 2 := by kernel_rfl
theorem fld_42_3 : fld Try.prog 42 3 = some 3 := by kernel_rfl
theorem umap_129 : Try.prog.underlying 129 = some (.map 3 4) := by kernel_rfl
theorem zer_89 : zer Try.prog 89 = some (.agg #[.int .i64 0, .int .i64 0, .int .i64 0, .int .i64 0, .bool false]) := by kernel_rfl
theorem lay_89 : lay1 Try.prog 89 = some [.int .i64 0, .int .i64 0, .int .i64 0, .int .i64 0, .bool false] := by kernel_rfl
theorem tyi_89 : tyi Try.prog 89 = some (true, 5) := by kernel_rfl
theorem fld_89_3 : fld Try.prog 89 3 = some 3 := by kernel_rfl
theorem fld_89_0 : fld Try.prog 89 0 = some 0 := by kernel_rfl
theorem umap_131 : Try.prog.underlying 131 = some (.map 3 89) := by kernel_rfl
theorem fld_85_2 : fld Try.prog 85 2 = some 2 := by kernel_rfl
theorem fld_89_4 : fld Try.prog 89 4 = some 4 := by kernel_rfl
theorem fld_85_1 : fld Try.prog 85 1 = some 1 := by kernel_rfl
theorem tyi_83 : tyi Try.prog 83 = some (false, 1) := by kernel_rfl
theorem ulen_83 : ((#[83] : Array TypeId)[0]?).bind Try.prog.underlying = some (.slice (Try.prog.elem ((#[83] : Array TypeId).getD 0 0))) := by kernel_rfl
theorem elt_83 : elt Try.prog 83 = some (89, 5, 40) := by kernel_rfl
theorem fldt_89_1 : fldt Try.prog 89 1 = some (1, 3) := by kernel_rfl
set_option maxRecDepth 100000 in
set_option maxHeartbeats 32000000 in
theorem dig_c {B gT : Nat} {h : Mh} {pts : List (Int × Int)} {tris : List Tr} {p1 p2 kd pa pb : Int} {n0 n1 : Nat} {q0 : List Nat} (hP : ∀ j, j < pts.length → P2 (pts.getD j (0, 0)).1 (pts.getD j (0, 0)).2) (hp : P2 p1 p2) (hlen : tris.length ≤ 1000000) (hpl : pts.length ≤ 1000000) (hTg : h.T = some ⟨gT, 0, none⟩) (hM : MsOk pts tris)
  {t0 : Tr} (ht0 : tris[n0]? = some t0) (hn1 : kd = 1 → acr t0 pa pb = (n1 : Int)) (hq0 : q0 = if kd = 1 then [n0, n1] else [n0]) (hql : ∀ x, x ∈ q0 → lvT tris x) (hqn : q0.Nodup) : Tri Try.prog 42 [.pointer (some ⟨B, 0, none⟩), ptv p1 p2, plV (kd, (n0 : Int), pa, pb)] [] (meshFs B h pts tris) (RetX (fun (x : List Nat × Option Addr × Nat × Option Addr × Nat) => DgOk pts tris (p1, p2) q0 x.1) (fun x => .agg #[.slice x.2.1 x.1.length x.2.2.1, .slice x.2.2.2.1 (rimOf pts tris (p1, p2) x.1).length x.2.2.2.2, .bool (cutOf pts tris (p1, p2) x.1)]) (fun _ => []) (fun x => [sliceR 1 x.2.1 x.1.length (Nv x.1), sliceR 5 x.2.2.2.1 (rimOf pts tris (p1, p2) x.1).length (sdCells (rimOf pts tris (p1, p2) x.1))])) := by
 refine Tri_of (N := 209) Try.func42 rfl ent_42 rfl rfl ?_
 intro w0 S0 T0
 show CJ _ _ _ [(0, _), (1, _), (2, _)] _ _
 show CJ _ _ _ [(0, _), (1, _), (2, .agg #[.int .i64 kd, .int .i64 (n0 : Nat), .int .i64 pa, .int .i64 pb])] _ _
 refine CJ_seq ?_
 refine CJ_reg ?_
 refine LJ_box (cs := #[_, _]) rfl rfl rfl rfl ?_
 intro b1
 refine LJ_box (cs := #[_, _, _, _]) rfl rfl rfl rfl ?_
 intro b2
 refine LJ_alloc (cs := #[_, _, _]) rfl rfl zer_85 rfl ?_
 intro b3
 refine LJ_nil ?_
 refine QJ_then ?_
 refine CJ_seq ?_
 refine CJ_reg ?_
 refine LJ_y rfl rfl (YJ_fieldOwn rfl fld_42_1 rfl) ?_
 refine LJ_y rfl rfl (YJ_loadL rfl tyi_3 m1 rfl) ?_
 refine LJ_buildSlice (cs := [_]) rfl rfl elt_55 zer_3 rfl (by decide) (pvs := [(_, _)]) rfl rfl rfl ?_
 intro b4
 refine LJ_turnK (k := 0) (r' := rowR 3 1 (some ⟨b4, 0, none⟩) 1 1 (Nv [n0])) rfl (fun w S q => cellsR_row (n := 1) (size := 1) rfl (by decide) w S q) ?_
 refine LJ_y rfl rfl (YJ_build1 (cs := [_, _, _]) lay_85 rfl rfl rfl) ?_
 refine LJ_alloc (cs := #[_, _, _]) rfl rfl zer_85 rfl ?_
 intro b5
 refine LJ_store (cs' := #[_, _, _]) (μ' := [_, _, _, _, _]) 0 rfl rfl rfl rfl tyi_85 rfl (Nat.le_of_ble_eq_true rfl) rfl rfl rfl ?_
 refine LJ_nil ?_
 refine QJ_then ?_
 refine CJ_seqC (F := fun (i : Option Addr × Nat) => ⟨[(0, .pointer (some ⟨B, 0, none⟩)), (4, .pointer (some ⟨b1, 0, none⟩)), (7, .pointer (some ⟨b5, 0, none⟩)), (6, .pointer (some ⟨b3, 0, none⟩))], [cellsR b5 #[.slice i.1 q0.length i.2, .slice none 0 0, .bool false] 85, rowR 3 1 i.1 q0.length i.2 (Nv q0), cellsR b1 #[.int .i64 p1, .int .i64 p2] 23, cellsR b2 #[.int .i64 kd, .int .i64 (n0 : Nat), .int .i64 pa, .int .i64 pb] 42, cellsR b3 #[.slice none 0 0, .slice none 0 0, .bool false] 85], (meshFs B h pts tris)⟩) (I := fun (i : Option Addr × Nat) => True) ?_ ?_
 ·skip
  refine CJ_seq ?_
  refine CJ_reg ?_
  refine LJ_y rfl rfl (YJ_fieldOwn rfl fld_42_0 rfl) ?_
  refine LJ_y rfl rfl (YJ_loadL rfl tyi_3 m3 rfl) ?_
  refine LJ_y rfl rfl (YJ_bin rfl rfl rfl) ?_
  refine LJ_nil ?_
  refine QJ_then ?_
  refine CJ_cond rfl (fun h30 => ?_) (fun h30 => ?_)
  ·simp only [decide_eq_true_eq] at h30
   obtain rfl : q0 = [n0, n1] := by rw [hq0, if_pos h30]
   refine CJ_regM mix (by kernel_rfl) (fun _ _ _ _ _ h => h) [[13], [11, 13], [], [], []] ?_
   refine BJ_y 0 rfl (by kernel_rfl) (by kernel_rfl) (by kernel_rfl) rfl rfl (YJ_fieldOwn rfl fld_85_0 rfl) ?_
   refine BJ_l 1 0 rfl (by kernel_rfl) (by kernel_rfl) (by kernel_rfl) rfl (by kernel_rfl) m0 rfl rfl (YJ_loadL rfl tyi_55 m0 rfl) ?_
   refine BJ_y 2 rfl (by kernel_rfl) (by kernel_rfl) (by kernel_rfl) rfl rfl (YJ_move rfl) ?_
   refine BJ_y 3 rfl (by kernel_rfl) (by kernel_rfl) (by kernel_rfl) rfl rfl (YJ_fieldOwn rfl fld_42_1 rfl) ?_
   refine BJ_l 4 3 rfl (by kernel_rfl) (by kernel_rfl) (by kernel_rfl) rfl (by kernel_rfl) m3 rfl rfl (YJ_loadL rfl tyi_3 m0 rfl) ?_
   refine BJ_y 5 rfl (by kernel_rfl) (by kernel_rfl) (by kernel_rfl) rfl rfl (YJ_fieldOwn rfl fld_42_2 rfl) ?_
   refine BJ_l 6 3 rfl (by kernel_rfl) (by kernel_rfl) (by kernel_rfl) rfl (by kernel_rfl) m3 rfl rfl (YJ_loadL rfl tyi_3 m0 rfl) ?_
   refine BJ_y 7 rfl (by kernel_rfl) (by kernel_rfl) (by kernel_rfl) rfl rfl (YJ_fieldOwn rfl fld_42_3 rfl) ?_
   refine BJ_l 8 3 rfl (by kernel_rfl) (by kernel_rfl) (by kernel_rfl) rfl (by kernel_rfl) m3 rfl rfl (YJ_loadL rfl tyi_3 m0 rfl) ?_
   refine BJ_call0 9 rfl (by kernel_rfl) rfl rfl rfl rfl rfl (And.intro (.inr m0) (And.intro (.inr m1) (And.intro (.inr m2) (And.intro (.inr m3) (And.intro (.inr m4) (trivial)))))) (across_c (h := h) (pts := pts) (a := pa) (b := pb) ht0 (by omega)) (fun r h => h) ?_
   refine BJ_val (v := .int .i64 (n1 : Nat)) (congrArg (Value.int .i64) (hn1 h30)) ?_
   refine BJ_buildSlice (vs := [_]) (cs := [_]) 10 rfl (by kernel_rfl) rfl rfl elt_55 zer_3 (by decide) (by decide) rfl rfl rfl rfl rfl (fun b => (And.intro (.inr m1) (And.intro (.inr m2) (And.intro (.inr m3) (And.intro (.inr m4) (And.intro (.inr m5) (trivial))))))) ?_
   intro b6
   refine BJ_append 11 2 rfl (by kernel_rfl) rfl rfl elt_55 zer_3 rfl rfl rfl rfl (Rd_own m0) rfl rfl (by omega) (by omega) (by decide) (Nv_app [n0] n1) (fun _ _ => (And.intro (.inr m1) (And.intro (.inl rfl) (And.intro (.inr m3) (And.intro (.inr m4) (And.intro (.inr m5) (trivial))))))) ?_
   intro A42 c42
   show BJ _ _ _ _ _ _ _ _ (_ :: _ :: _ :: _ :: _ :: _ :: _) _
   refine BJ_y 12 rfl (by kernel_rfl) (by kernel_rfl) (by kernel_rfl) rfl rfl (YJ_fieldOwn rfl fld_85_0 rfl) ?_
   refine BJ_store (cs' := #[_, _, _]) (μ' := [_, _, _, _, _, _]) 13 1 rfl (by kernel_rfl) rfl rfl rfl rfl tyi_55 rfl (Nat.le_of_ble_eq_true rfl) rfl rfl rfl (And.intro (.inl rfl) (And.intro (.inl rfl) (And.intro (.inr m3) (And.intro (.inr m4) (And.intro (.inr m5) (trivial)))))) ?_
   refine BJ_done (by kernel_rfl) ?_
   refine QJ_cut ((A42, c42)) (μr := [_]) trivial (And.intro rfl (And.intro rfl (And.intro rfl (And.intro rfl (trivial))))) (permI [1, 1, 3, 2, 1] rfl) (fun _ h => h)
  ·simp only [decide_eq_false_iff_not] at h30
   obtain rfl : q0 = [n0] := by rw [hq0, if_neg h30]
   refine CJ_skip ?_
   refine QJ_cut ((some ⟨b4, 0, none⟩, 1)) (μr := []) trivial (And.intro rfl (And.intro rfl (And.intro rfl (And.intro rfl (trivial))))) (permI [0, 0, 2, 1] rfl) (fun _ h => h)
 ·rintro ⟨A0, cA0⟩ -
  show CJ _ _ _ [(0, .pointer (some ⟨B, 0, none⟩)), (4, .pointer (some ⟨b1, 0, none⟩)), (7, .pointer (some ⟨b5, 0, none⟩)), (6, .pointer (some ⟨b3, 0, none⟩))] [cellsR b5 #[.slice A0 q0.length cA0, .slice none 0 0, .bool false] 85, rowR 3 1 A0 q0.length cA0 (Nv q0), cellsR b1 #[.int .i64 p1, .int .i64 p2] 23, cellsR b2 #[.int .i64 kd, .int .i64 (n0 : Nat), .int .i64 pa, .int .i64 pb] 42, cellsR b3 #[.slice none 0 0, .slice none 0 0, .bool false] 85] _
  have hq0l : q0.length ≤ 2 := by rw [hq0]; split <;> simp
  have hq00 : 0 < q0.length := by rw [hq0]; split <;> simp
  refine CJ_seq ?_
  refine CJ_reg ?_
  refine LJ_makeMap rfl rfl ?_
  intro im
  refine LJ_y rfl rfl (YJ_assign rfl) ?_
  refine LJ_nil ?_
  refine QJ_then ?_
  refine CJ_seq ?_
  refine CJ_seq ?_
  refine CJ_rowSome (A := A0) m2 (by omega) (fun gq hq hcq => ?_)
  subst hq
  refine CJ_reg ?_
  refine LJ_y rfl rfl (YJ_fieldOwn rfl fld_85_0 rfl) ?_
  refine LJ_y rfl rfl (YJ_loadL rfl tyi_55 m1 rfl) ?_
  refine LJ_y rfl rfl (YJ_len rfl ulen_55 rfl) ?_
  refine LJ_y rfl rfl (YJ_move rfl) ?_
  refine LJ_nil ?_
  refine QJ_then ?_
  refine CJ_block ?_
  refine CJ_loopF (F := fun (i : Nat × MB × Nat) => ⟨[(0, .pointer (some ⟨B, 0, none⟩)), (4, .pointer (some ⟨b1, 0, none⟩)), (7, .pointer (some ⟨b5, 0, none⟩)), (6, .pointer (some ⟨b3, 0, none⟩)), (8, .map (some im)), (46, .slice (some ⟨gq, 0, none⟩) q0.length cA0), (47, .int .i64 q0.length), (48, .int .i64 (i.1 : Nat))], [mapR im gI gBo i.2.1 i.2.2], []⟩) (I := fun (i : Nat × MB × Nat) => i.1 ≤ q0.length ∧ InL i.2.1 (q0.take i.1)) (m := fun (i : Nat × MB × Nat) => q0.length - i.1) (0, [], 0) (μr := [_, _, _, _, _]) ⟨Nat.zero_le _, InL.nil⟩ (And.intro rfl (And.intro rfl (And.intro rfl (And.intro rfl (And.intro rfl (And.intro rfl (And.intro rfl (And.intro rfl (trivial))))))))) (permI [] rfl) (fun _ h => nomatch h) ?_
  rintro ⟨k, L, c⟩ ⟨hk, hL⟩
  try dsimp only at hk
  try dsimp only at hL
  show CJ _ _ _ [(0, .pointer (some ⟨B, 0, none⟩)), (4, .pointer (some ⟨b1, 0, none⟩)), (7, .pointer (some ⟨b5, 0, none⟩)), (6, .pointer (some ⟨b3, 0, none⟩)), (8, .map (some im)), (46, .slice (some ⟨gq, 0, none⟩) q0.length cA0), (47, .int .i64 q0.length), (48, .int .i64 (k : Nat))] (mapR im gI gBo L c :: _ :: _ :: _ :: _ :: _ :: _) _
  refine CJ_seq ?_
  refine CJ_reg ?_
  refine LJ_y rfl rfl (YJ_bin rfl rfl rfl) ?_
  refine LJ_nil ?_
  refine QJ_then ?_
  refine CJ_seq ?_
  refine CJ_cond rfl (fun h49 => ?_) (fun h49 => ?_)
  ·simp only [decide_eq_true_eq] at h49
   obtain ⟨x, hx⟩ : ∃ x, q0[k]? = some x := ⟨_, List.getElem?_eq_getElem (by omega)⟩
   refine CJ_skip ?_
   refine QJ_then ?_
   refine CJ_seq ?_
   refine CJ_block ?_
   refine CJ_seq ?_
   refine CJ_reg ?_
   refine LJ_y rfl rfl (YJ_ixOwn rfl rfl elt_55 (by omega) (by omega)) ?_
   refine LJ_y rfl rfl (YJ_row m2 (YJ_loadFactP (A := some ⟨gq, 0, none⟩) (j := k) rfl (addr_eq (by first | omega | (simp only [Nat.add_eq]; omega))) tyi_3 (.head _) (Nv_at hx))) ?_
   refine LJ_y rfl rfl (YJ_assign rfl) ?_
   refine LJ_nil ?_
   refine QJ_then ?_
   refine CJ_reg ?_
   refine LJ_y rfl rfl (YJ_move rfl) ?_
   refine LJ_y rfl rfl (YJ_move rfl) ?_
   refine LJ_mapUpdate (f := gI) (g := gBo) (k := (x : Int)) (v := true) 0 rfl rfl rfl rfl rfl umap_129 keyI rfl rfl ?_
   show LJ _ _ _ _ _ (_ :: _ :: _ :: _ :: _ :: _ :: _) _
   refine LJ_nil ?_
   refine QJ_in_normal ?_
   refine QJ_then ?_
   refine CJ_reg ?_
   refine LJ_y rfl rfl (YJ_bin rfl rfl (iop_add (by omega))) ?_
   refine LJ_y rfl rfl (YJ_move rfl) ?_
   refine LJ_nil ?_
   refine QJ_roundF (F := fun (i : Nat × MB × Nat) => ⟨[(0, .pointer (some ⟨B, 0, none⟩)), (4, .pointer (some ⟨b1, 0, none⟩)), (7, .pointer (some ⟨b5, 0, none⟩)), (6, .pointer (some ⟨b3, 0, none⟩)), (8, .map (some im)), (46, .slice (some ⟨gq, 0, none⟩) q0.length cA0), (47, .int .i64 q0.length), (48, .int .i64 (i.1 : Nat))], [mapR im gI gBo i.2.1 i.2.2], []⟩) (I := fun (i : Nat × MB × Nat) => i.1 ≤ q0.length ∧ InL i.2.1 (q0.take i.1)) (m := fun (i : Nat × MB × Nat) => q0.length - i.1) (i := (k, L, c)) ((k + 1, mput (x : Int) true L c, mclk (x : Int) L c)) (μd := []) ⟨by omega, by dsimp only; rw [List.take_add_one, hx]; exact hL.put x c⟩ (by dsimp only; omega) (And.intro rfl (And.intro rfl (And.intro rfl (And.intro rfl (And.intro rfl (And.intro rfl (And.intro rfl (And.intro rfl (trivial))))))))) (permI [] rfl) (fun _ h => nomatch h) (fun _ h => h)
  ·simp only [decide_eq_false_iff_not] at h49
   rw [List.take_of_length_le (by omega)] at hL
   refine CJ_exit ?_
   refine QJ_then_exit ?_
   refine QJ_then_exit ?_
   refine QJ_in_exit ?_
   refine QJ_then ?_
   refine CJ_seq ?_
   refine CJ_seq ?_
   refine CJ_reg ?_
   refine LJ_y rfl rfl (YJ_assign rfl) ?_
   refine LJ_nil ?_
   refine QJ_then ?_
   refine CJ_block ?_
   refine CJ_loopF (F := fun (i : Nat × List Nat × MB × Nat × Option Addr × Nat) => ⟨[(0, .pointer (some ⟨B, 0, none⟩)), (4, .pointer (some ⟨b1, 0, none⟩)), (7, .pointer (some ⟨b5, 0, none⟩)), (6, .pointer (some ⟨b3, 0, none⟩)), (8, .map (some im)), (11, .int .i64 (i.1 : Nat))], [cellsR b5 #[.slice i.2.2.2.2.1 i.2.1.length i.2.2.2.2.2, .slice none 0 0, .bool false] 85, rowR 3 1 i.2.2.2.2.1 i.2.1.length i.2.2.2.2.2 (Nv i.2.1), mapR im gI gBo i.2.2.1 i.2.2.2.1], []⟩) (I := fun (i : Nat × List Nat × MB × Nat × Option Addr × Nat) => i.1 ≤ i.2.1.length ∧ Bf pts tris (p1, p2) q0 i.2.1 i.1 0 ∧ InL i.2.2.1 i.2.1) (m := fun (i : Nat × List Nat × MB × Nat × Option Addr × Nat) => tris.length - i.1) (0, q0, L, c, some ⟨gq, 0, none⟩, cA0) (μr := [_, _, _]) ⟨Nat.zero_le _, Bf.start hqn hql, hL⟩ (And.intro rfl (And.intro rfl (And.intro rfl (And.intro rfl (And.intro rfl (And.intro rfl (trivial))))))) (permI [1, 1] rfl) (fun _ h => nomatch h) ?_
   rintro ⟨k, q1, L1, c1, A1, cA1⟩ ⟨hk, hB, hL1⟩
   try dsimp only at hk
   try dsimp only at hB
   try dsimp only at hL1
   show CJ _ _ _ [(0, .pointer (some ⟨B, 0, none⟩)), (4, .pointer (some ⟨b1, 0, none⟩)), (7, .pointer (some ⟨b5, 0, none⟩)), (6, .pointer (some ⟨b3, 0, none⟩)), (8, .map (some im)), (11, .int .i64 (k : Nat))] (cellsR b5 #[.slice A1 q1.length cA1, .slice none 0 0, .bool false] 85 :: rowR 3 1 A1 q1.length cA1 (Nv q1) :: mapR im gI gBo L1 c1 :: _ :: _ :: _ :: _) _
   refine CJ_seq ?_
   refine CJ_seq ?_
   refine CJ_reg ?_
   refine LJ_y rfl rfl (YJ_move rfl) ?_
   refine LJ_y rfl rfl (YJ_fieldOwn rfl fld_85_0 rfl) ?_
   refine LJ_y rfl rfl (YJ_loadL rfl tyi_55 m0 rfl) ?_
   refine LJ_y rfl rfl (YJ_len rfl ulen_55 rfl) ?_
   refine LJ_y rfl rfl (YJ_bin rfl rfl rfl) ?_
   refine LJ_nil ?_
   refine QJ_then ?_
   refine CJ_cond rfl (fun h59 => ?_) (fun h59 => ?_)
   ·simp only [decide_eq_true_eq] at h59
    have hq1l := hB.len
    obtain ⟨x, hx⟩ : ∃ x, q1[k]? = some x := ⟨_, List.getElem?_eq_getElem (by omega)⟩
    obtain ⟨t, ht, htv⟩ := hB.lv x (List.mem_of_getElem? hx)
    have hxl := (List.getElem?_eq_some_iff.1 ht).1
    refine CJ_skip ?_
    refine QJ_then ?_
    refine CJ_seq ?_
    refine CJ_block ?_
    refine CJ_seq ?_
    refine CJ_rowSome (A := A1) m1 (by omega) (fun gr hq hcq => ?_)
    subst hq
    refine CJ_regDA mix (by kernel_rfl) (fun _ _ _ _ _ h => h) _ _ (fun _ h => h) (fun _ h => h) [⟨11, 12, 37, #[.int .i64 0, .int .i64 0, .int .i64 0, .int .i64 0, .int .i64 0, .int .i64 0, .bool false, .bool false, .bool false]⟩] 12 rfl (And.intro ⟨_, _, _, _, rfl, zer_37, rfl⟩ (trivial)) rfl rfl ?_
    refine AA_y 0 rfl (by kernel_rfl) rfl rfl rfl (YJ_move rfl) ?_
    refine AA_y 1 rfl (by kernel_rfl) rfl rfl rfl (YJ_nilCheck rfl) ?_
    refine AA_y 2 rfl (by kernel_rfl) rfl rfl rfl (YJ_fieldOwn rfl fld_57_1 rfl) ?_
    refine AA_y 3 rfl (by kernel_rfl) rfl rfl rfl (YJ_loadFactP (A := some ⟨B, 0, none⟩) (j := 1) rfl rfl tyi_54 m0 rfl) ?_
    refine AA_y 4 rfl (by kernel_rfl) rfl rfl rfl (YJ_fieldOwn rfl fld_85_0 rfl) ?_
    refine AA_y 5 rfl (by kernel_rfl) rfl rfl rfl (YJ_loadL rfl tyi_55 m0 rfl) ?_
    refine AA_y 6 rfl (by kernel_rfl) rfl rfl rfl (YJ_move rfl) ?_
    refine AA_y 7 rfl (by kernel_rfl) rfl rfl rfl (YJ_ixOwn rfl rfl elt_55 (by omega) (by omega)) ?_
    refine AA_y 8 rfl (by kernel_rfl) rfl rfl rfl (YJ_row m1 (YJ_loadFactP (A := some ⟨gr, 0, none⟩) (j := k) rfl (addr_eq (by first | omega | (simp only [Nat.add_eq]; omega))) tyi_3 (.head _) (Nv_at hx))) ?_
    refine AA_val (v := .int .i64 (x : Nat)) (rfl) ?_
    refine AA_y 9 rfl (by kernel_rfl) rfl rfl rfl (YJ_ixFact rfl rfl elt_54 m2 (by decide) (by omega) (by omega) (by omega)) ?_
    refine AA_y 10 rfl (by kernel_rfl) rfl rfl rfl (YJ_loadFactN (vs := [.int .i64 t.v0, .int .i64 t.v1, .int .i64 t.v2, .int .i64 t.n0, .int .i64 t.n1, .int .i64 t.n2, .bool t.f0, .bool t.f1, .bool t.f2]) (xs := trCells tris) rfl tyi_37 m2 (trCells_row (cast_idx ht)) rfl) ?_
    refine AA_end (by kernel_rfl) rfl ?_
    intro bs hbs
    obtain ⟨b8, rfl⟩ := len_1 hbs
    clear hbs
    show AJ _ _ _ _ _ _ _ ((12, .pointer (some ⟨b8, 0, none⟩)) :: _) (cellsR b8 _ _ :: _) _
    refine AJ_store (cs' := #[.int .i64 t.v0, .int .i64 t.v1, .int .i64 t.v2, .int .i64 t.n0, .int .i64 t.n1, .int .i64 t.n2, .bool t.f0, .bool t.f1, .bool t.f2]) (μ' := [_, _, _, _, _, _, _]) 12 0 rfl (by kernel_rfl) rfl rfl rfl rfl tyi_37 rfl (Nat.le_of_ble_eq_true rfl) rfl (wr_all rfl) rfl (fun _ => AllIn.sub (And.intro m1 (And.intro m2 (And.intro m3 (And.intro m4 (And.intro m5 (And.intro m6 (trivial)))))))) ?_
    refine AJ_done (by kernel_rfl) ?_
    refine QJ_then ?_
    refine CJ_seq ?_
    refine CJ_reg ?_
    refine LJ_y rfl rfl (YJ_fieldOwn rfl fld_37_1 rfl) ?_
    refine LJ_y rfl rfl (YJ_loadN (vs := [_, _, _]) rfl tyi_34 m0 rfl rfl) ?_
    refine LJ_y rfl rfl (YJ_move rfl) ?_
    refine LJ_nil ?_
    refine QJ_then ?_
    refine CJ_block ?_
    refine CJ_loopF (F := fun (i : Nat × List Nat × MB × Nat × Option Addr × Nat) => ⟨[(0, .pointer (some ⟨B, 0, none⟩)), (4, .pointer (some ⟨b1, 0, none⟩)), (7, .pointer (some ⟨b5, 0, none⟩)), (6, .pointer (some ⟨b3, 0, none⟩)), (8, .map (some im)), (11, .int .i64 (k : Nat)), (12, .pointer (some ⟨b8, 0, none⟩)), (74, .agg #[.int .i64 t.n0, .int .i64 t.n1, .int .i64 t.n2]), (75, .int .i64 (i.1 : Nat))], [cellsR b5 #[.slice i.2.2.2.2.1 i.2.1.length i.2.2.2.2.2, .slice none 0 0, .bool false] 85, rowR 3 1 i.2.2.2.2.1 i.2.1.length i.2.2.2.2.2 (Nv i.2.1), mapR im gI gBo i.2.2.1 i.2.2.2.1], []⟩) (I := fun (i : Nat × List Nat × MB × Nat × Option Addr × Nat) => i.1 ≤ 3 ∧ Bf pts tris (p1, p2) q0 i.2.1 k i.1 ∧ InL i.2.2.1 i.2.1 ∧ q1 <+: i.2.1) (m := fun (i : Nat × List Nat × MB × Nat × Option Addr × Nat) => 3 - i.1) (0, q1, L1, c1, some ⟨gr, 0, none⟩, cA1) (μr := [_, _, _, _]) ⟨Nat.zero_le _, hB, hL1, List.prefix_refl _⟩ (And.intro rfl (And.intro rfl (And.intro rfl (And.intro rfl (And.intro rfl (And.intro rfl (And.intro rfl (And.intro rfl (And.intro rfl (trivial)))))))))) (permI [1, 1, 1] rfl) (fun _ h => nomatch h) ?_
    rintro ⟨m, q2, L2, c2, A2, cA2⟩ ⟨hm, hB2, hL2, hqq⟩
    try dsimp only at hm
    try dsimp only at hB2
    try dsimp only at hL2
    try dsimp only at hqq
    show CJ _ _ _ [(0, .pointer (some ⟨B, 0, none⟩)), (4, .pointer (some ⟨b1, 0, none⟩)), (7, .pointer (some ⟨b5, 0, none⟩)), (6, .pointer (some ⟨b3, 0, none⟩)), (8, .map (some im)), (11, .int .i64 (k : Nat)), (12, .pointer (some ⟨b8, 0, none⟩)), (74, .agg #[.int .i64 t.n0, .int .i64 t.n1, .int .i64 t.n2]), (75, .int .i64 (m : Nat))] (cellsR b5 #[.slice A2 q2.length cA2, .slice none 0 0, .bool false] 85 :: rowR 3 1 A2 q2.length cA2 (Nv q2) :: mapR im gI gBo L2 c2 :: _ :: _ :: _ :: _ :: _) _
    refine CJ_seq ?_
    refine CJ_reg ?_
    refine LJ_y rfl rfl (YJ_bin rfl rfl rfl) ?_
    refine LJ_nil ?_
    refine QJ_then ?_
    refine CJ_seq ?_
    refine CJ_cond rfl (fun h76 => ?_) (fun h76 => ?_)
    ·simp only [decide_eq_true_eq] at h76
     have hk3 : m < 3 := by omega
     obtain ⟨u, hu, o, ho, ho2⟩ := hM.nb x t ht htv m hk3
     have hul := (List.getElem?_eq_some_iff.1 ho).1
     have hq2l := hB2.len
     have hx2 : q2[k]? = some x := by
      obtain ⟨rr, hrr⟩ := hqq
      rw [← hrr, List.getElem?_append_left (by omega)]
      exact hx
     refine CJ_skip ?_
     refine QJ_then ?_
     refine CJ_seq ?_
     refine CJ_block ?_
     refine CJ_seq ?_
     refine CJ_reg ?_
     refine LJ_y rfl rfl (YJ_move rfl) ?_
     refine LJ_y rfl rfl (YJ_index1 rfl rfl arrt_34 tyi_3 (by omega) (by omega) (n_get hk3)) ?_
     refine LJ_val (v := .int .i64 (u : Nat)) (congrArg (Value.int .i64) hu) ?_
     refine LJ_y rfl rfl (YJ_assign rfl) ?_
     refine LJ_y rfl rfl (YJ_assign rfl) ?_
     refine LJ_nil ?_
     refine QJ_then ?_
     refine CJ_seq ?_
     refine CJ_reg ?_
     refine LJ_y rfl rfl (YJ_move rfl) ?_
     refine LJ_y rfl rfl (YJ_move rfl) ?_
     refine LJ_y rfl rfl (YJ_lookup (f := gI) (g := gBo) (k := (u : Int)) rfl rfl umap_129 keyI zer_4 (MapAt_own (l := L2) (c := c2) m2) rfl) ?_
     refine LJ_val (v := .bool (decide (u ∈ q2))) (getD_mapB.trans (congrArg Value.bool (InL.at hL2 u))) ?_
     refine LJ_y rfl rfl (YJ_not rfl) ?_
     refine LJ_y rfl rfl (YJ_move rfl) ?_
     refine LJ_boolC (fun h83 => ?_) (fun h83 => ?_)
     ·simp only [decide_eq_false_iff_not, Bool.not_eq_true'] at h83
      refine LJ_y rfl rfl (YJ_move rfl) ?_
      refine LJ_y rfl rfl (YJ_fieldOwn rfl fld_37_2 rfl) ?_
      refine LJ_y rfl rfl (YJ_ixArr rfl rfl arrt_35 (by omega) (by omega) rfl) ?_
      refine LJ_y rfl rfl (YJ_load1 rfl tyi_4 m3 (fa_get (t := t) hk3)) ?_
      refine LJ_y rfl rfl (YJ_not rfl) ?_
      refine LJ_y rfl rfl (YJ_pickT rfl rfl) ?_
      refine LJ_y rfl rfl (YJ_move rfl) ?_
      refine LJ_boolC (fun h90 => ?_) (fun h90 => ?_)
      ·simp only [Bool.not_eq_true'] at h90
       refine LJ_y rfl rfl (YJ_move rfl) ?_
       refine LJ_y rfl rfl (YJ_move rfl) ?_
       refine LJ_y rfl rfl (YJ_loadN (vs := [_, _]) rfl tyi_23 m4 rfl rfl) ?_
       refine LJ_call0 rfl rfl rfl rfl rfl (conflict_c (h := h) hP ho (hM.ok u o ho ho2) (by omega) hp) (fun r h => h) ?_
       refine LJ_val (v := .bool (cfN pts tris (p1, p2) u)) (congrArg Value.bool (cfN_at ho).symm) ?_
       refine LJ_y rfl rfl (YJ_pickT rfl rfl) ?_
       refine LJ_nil ?_
       refine QJ_then ?_
       refine CJ_cond rfl (fun h95 => ?_) (fun h95 => ?_)
       ·skip
        refine CJ_seq ?_
        refine CJ_reg ?_
        refine LJ_y rfl rfl (YJ_move rfl) ?_
        refine LJ_y rfl rfl (YJ_move rfl) ?_
        refine LJ_mapUpdate (f := gI) (g := gBo) (k := (u : Int)) (v := true) 2 rfl rfl rfl rfl rfl umap_129 keyI rfl rfl ?_
        show LJ _ _ _ _ _ (_ :: _ :: _ :: _ :: _ :: _ :: _ :: _) _
        refine LJ_nil ?_
        refine QJ_then ?_
        refine CJ_reg ?_
        refine LJ_y rfl rfl (YJ_fieldOwn rfl fld_85_0 rfl) ?_
        refine LJ_y rfl rfl (YJ_loadL rfl tyi_55 m0 rfl) ?_
        refine LJ_y rfl rfl (YJ_move rfl) ?_
        refine LJ_buildSlice (cs := [_]) rfl rfl elt_55 zer_3 rfl (by decide) (pvs := [(_, _)]) rfl rfl rfl ?_
        intro b9
        refine LJ_append 2 rfl rfl elt_55 zer_3 rfl rfl rfl rfl (Rd_own m0) rfl rfl (by omega) (by omega) (by decide) (Nv_app q2 u) ?_
        intro A7 c7
        show LJ _ _ _ _ _ (_ :: _ :: _ :: _ :: _ :: _ :: _ :: _ :: _) _
        rw [show q2.length + 1 = (q2 ++ [u]).length by rw [List.length_append]; rfl]
        refine LJ_y rfl rfl (YJ_fieldOwn rfl fld_85_0 rfl) ?_
        refine LJ_store (cs' := #[_, _, _]) (μ' := [_, _, _, _, _, _, _, _]) 1 rfl rfl rfl rfl tyi_55 rfl (Nat.le_of_ble_eq_true rfl) rfl rfl rfl ?_
        refine LJ_nil ?_
        refine QJ_in_normal ?_
        refine QJ_then ?_
        refine CJ_reg ?_
        refine LJ_y rfl rfl (YJ_bin rfl rfl (iop_add (by omega))) ?_
        refine LJ_y rfl rfl (YJ_move rfl) ?_
        refine LJ_nil ?_
        refine QJ_roundF (F := fun (i : Nat × List Nat × MB × Nat × Option Addr × Nat) => ⟨[(0, .pointer (some ⟨B, 0, none⟩)), (4, .pointer (some ⟨b1, 0, none⟩)), (7, .pointer (some ⟨b5, 0, none⟩)), (6, .pointer (some ⟨b3, 0, none⟩)), (8, .map (some im)), (11, .int .i64 (k : Nat)), (12, .pointer (some ⟨b8, 0, none⟩)), (74, .agg #[.int .i64 t.n0, .int .i64 t.n1, .int .i64 t.n2]), (75, .int .i64 (i.1 : Nat))], [cellsR b5 #[.slice i.2.2.2.2.1 i.2.1.length i.2.2.2.2.2, .slice none 0 0, .bool false] 85, rowR 3 1 i.2.2.2.2.1 i.2.1.length i.2.2.2.2.2 (Nv i.2.1), mapR im gI gBo i.2.2.1 i.2.2.2.1], []⟩) (I := fun (i : Nat × List Nat × MB × Nat × Option Addr × Nat) => i.1 ≤ 3 ∧ Bf pts tris (p1, p2) q0 i.2.1 k i.1 ∧ InL i.2.2.1 i.2.1 ∧ q1 <+: i.2.1) (m := fun (i : Nat × List Nat × MB × Nat × Option Addr × Nat) => 3 - i.1) (i := (m, q2, L2, c2, A2, cA2)) ((m + 1, q2 ++ [u], mput (u : Int) true L2 c2, mclk (u : Int) L2 c2, A7, c7)) (μd := [_]) ⟨by omega, hB2.push hk3 hx2 ht hu h83 ⟨o, ho, ho2⟩ h90 h95, hL2.put u c2, hqq.trans (List.prefix_append _ _)⟩ (by dsimp only; omega) (And.intro rfl (And.intro rfl (And.intro rfl (And.intro rfl (And.intro rfl (And.intro rfl (And.intro rfl (And.intro rfl (And.intro rfl (trivial)))))))))) (permI [1, 1, 1, 1, 1, 1, 1] rfl) (fun _ h => nomatch h) (fun _ h => h)
       ·skip
        refine CJ_skip ?_
        refine QJ_in_normal ?_
        refine QJ_then ?_
        refine CJ_reg ?_
        refine LJ_y rfl rfl (YJ_bin rfl rfl (iop_add (by omega))) ?_
        refine LJ_y rfl rfl (YJ_move rfl) ?_
        refine LJ_nil ?_
        refine QJ_roundF (F := fun (i : Nat × List Nat × MB × Nat × Option Addr × Nat) => ⟨[(0, .pointer (some ⟨B, 0, none⟩)), (4, .pointer (some ⟨b1, 0, none⟩)), (7, .pointer (some ⟨b5, 0, none⟩)), (6, .pointer (some ⟨b3, 0, none⟩)), (8, .map (some im)), (11, .int .i64 (k : Nat)), (12, .pointer (some ⟨b8, 0, none⟩)), (74, .agg #[.int .i64 t.n0, .int .i64 t.n1, .int .i64 t.n2]), (75, .int .i64 (i.1 : Nat))], [cellsR b5 #[.slice i.2.2.2.2.1 i.2.1.length i.2.2.2.2.2, .slice none 0 0, .bool false] 85, rowR 3 1 i.2.2.2.2.1 i.2.1.length i.2.2.2.2.2 (Nv i.2.1), mapR im gI gBo i.2.2.1 i.2.2.2.1], []⟩) (I := fun (i : Nat × List Nat × MB × Nat × Option Addr × Nat) => i.1 ≤ 3 ∧ Bf pts tris (p1, p2) q0 i.2.1 k i.1 ∧ InL i.2.2.1 i.2.1 ∧ q1 <+: i.2.1) (m := fun (i : Nat × List Nat × MB × Nat × Option Addr × Nat) => 3 - i.1) (i := (m, q2, L2, c2, A2, cA2)) ((m + 1, q2, L2, c2, A2, cA2)) (μd := []) ⟨by omega, hB2.skip hx2 ht hu (.inr (.inr h95)), hL2, hqq⟩ (by dsimp only; omega) (And.intro rfl (And.intro rfl (And.intro rfl (And.intro rfl (And.intro rfl (And.intro rfl (And.intro rfl (And.intro rfl (And.intro rfl (trivial)))))))))) (permI [] rfl) (fun _ h => nomatch h) (fun _ h => h)
      ·simp only [Bool.not_eq_false'] at h90
       refine LJ_skip rfl rfl ?_
       refine LJ_skip rfl rfl ?_
       refine LJ_skip rfl rfl ?_
       refine LJ_skip rfl rfl ?_
       refine LJ_y rfl rfl (YJ_pickF rfl rfl) ?_
       refine LJ_nil ?_
       refine QJ_then ?_
       refine CJ_condF rfl ?_
       refine CJ_skip ?_
       refine QJ_in_normal ?_
       refine QJ_then ?_
       refine CJ_reg ?_
       refine LJ_y rfl rfl (YJ_bin rfl rfl (iop_add (by omega))) ?_
       refine LJ_y rfl rfl (YJ_move rfl) ?_
       refine LJ_nil ?_
       refine QJ_roundF (F := fun (i : Nat × List Nat × MB × Nat × Option Addr × Nat) => ⟨[(0, .pointer (some ⟨B, 0, none⟩)), (4, .pointer (some ⟨b1, 0, none⟩)), (7, .pointer (some ⟨b5, 0, none⟩)), (6, .pointer (some ⟨b3, 0, none⟩)), (8, .map (some im)), (11, .int .i64 (k : Nat)), (12, .pointer (some ⟨b8, 0, none⟩)), (74, .agg #[.int .i64 t.n0, .int .i64 t.n1, .int .i64 t.n2]), (75, .int .i64 (i.1 : Nat))], [cellsR b5 #[.slice i.2.2.2.2.1 i.2.1.length i.2.2.2.2.2, .slice none 0 0, .bool false] 85, rowR 3 1 i.2.2.2.2.1 i.2.1.length i.2.2.2.2.2 (Nv i.2.1), mapR im gI gBo i.2.2.1 i.2.2.2.1], []⟩) (I := fun (i : Nat × List Nat × MB × Nat × Option Addr × Nat) => i.1 ≤ 3 ∧ Bf pts tris (p1, p2) q0 i.2.1 k i.1 ∧ InL i.2.2.1 i.2.1 ∧ q1 <+: i.2.1) (m := fun (i : Nat × List Nat × MB × Nat × Option Addr × Nat) => 3 - i.1) (i := (m, q2, L2, c2, A2, cA2)) ((m + 1, q2, L2, c2, A2, cA2)) (μd := []) ⟨by omega, hB2.skip hx2 ht hu (.inr (.inl h90)), hL2, hqq⟩ (by dsimp only; omega) (And.intro rfl (And.intro rfl (And.intro rfl (And.intro rfl (And.intro rfl (And.intro rfl (And.intro rfl (And.intro rfl (And.intro rfl (trivial)))))))))) (permI [] rfl) (fun _ h => nomatch h) (fun _ h => h)
     ·simp only [decide_eq_true_eq, Bool.not_eq_false'] at h83
      refine LJ_skip rfl rfl ?_
      refine LJ_skip rfl rfl ?_
      refine LJ_skip rfl rfl ?_
      refine LJ_skip rfl rfl ?_
      refine LJ_skip rfl rfl ?_
      refine LJ_y rfl rfl (YJ_pickF rfl rfl) ?_
      refine LJ_y rfl rfl (YJ_move rfl) ?_
      refine LJ_skip rfl rfl ?_
      refine LJ_skip rfl rfl ?_
      refine LJ_skip rfl rfl ?_
      refine LJ_skip rfl rfl ?_
      refine LJ_y rfl rfl (YJ_pickF rfl rfl) ?_
      refine LJ_nil ?_
      refine QJ_then ?_
      refine CJ_condF rfl ?_
      refine CJ_skip ?_
      refine QJ_in_normal ?_
      refine QJ_then ?_
      refine CJ_reg ?_
      refine LJ_y rfl rfl (YJ_bin rfl rfl (iop_add (by omega))) ?_
      refine LJ_y rfl rfl (YJ_move rfl) ?_
      refine LJ_nil ?_
      refine QJ_roundF (F := fun (i : Nat × List Nat × MB × Nat × Option Addr × Nat) => ⟨[(0, .pointer (some ⟨B, 0, none⟩)), (4, .pointer (some ⟨b1, 0, none⟩)), (7, .pointer (some ⟨b5, 0, none⟩)), (6, .pointer (some ⟨b3, 0, none⟩)), (8, .map (some im)), (11, .int .i64 (k : Nat)), (12, .pointer (some ⟨b8, 0, none⟩)), (74, .agg #[.int .i64 t.n0, .int .i64 t.n1, .int .i64 t.n2]), (75, .int .i64 (i.1 : Nat))], [cellsR b5 #[.slice i.2.2.2.2.1 i.2.1.length i.2.2.2.2.2, .slice none 0 0, .bool false] 85, rowR 3 1 i.2.2.2.2.1 i.2.1.length i.2.2.2.2.2 (Nv i.2.1), mapR im gI gBo i.2.2.1 i.2.2.2.1], []⟩) (I := fun (i : Nat × List Nat × MB × Nat × Option Addr × Nat) => i.1 ≤ 3 ∧ Bf pts tris (p1, p2) q0 i.2.1 k i.1 ∧ InL i.2.2.1 i.2.1 ∧ q1 <+: i.2.1) (m := fun (i : Nat × List Nat × MB × Nat × Option Addr × Nat) => 3 - i.1) (i := (m, q2, L2, c2, A2, cA2)) ((m + 1, q2, L2, c2, A2, cA2)) (μd := []) ⟨by omega, hB2.skip hx2 ht hu (.inl h83), hL2, hqq⟩ (by dsimp only; omega) (And.intro rfl (And.intro rfl (And.intro rfl (And.intro rfl (And.intro rfl (And.intro rfl (And.intro rfl (And.intro rfl (And.intro rfl (trivial)))))))))) (permI [] rfl) (fun _ h => nomatch h) (fun _ h => h)
    ·simp only [decide_eq_false_iff_not] at h76
     have hm3 : m = 3 := by omega
     have hq12 := hqq.length_le
     subst hm3
     refine CJ_exit ?_
     refine QJ_then_exit ?_
     refine QJ_then_exit ?_
     refine QJ_in_exit ?_
     refine QJ_in_normal ?_
     refine QJ_then ?_
     refine CJ_reg ?_
     refine LJ_y rfl rfl (YJ_move rfl) ?_
     refine LJ_y rfl rfl (YJ_bin rfl rfl (iop_add (by omega))) ?_
     refine LJ_y rfl rfl (YJ_assign rfl) ?_
     refine LJ_nil ?_
     refine QJ_roundF (F := fun (i : Nat × List Nat × MB × Nat × Option Addr × Nat) => ⟨[(0, .pointer (some ⟨B, 0, none⟩)), (4, .pointer (some ⟨b1, 0, none⟩)), (7, .pointer (some ⟨b5, 0, none⟩)), (6, .pointer (some ⟨b3, 0, none⟩)), (8, .map (some im)), (11, .int .i64 (i.1 : Nat))], [cellsR b5 #[.slice i.2.2.2.2.1 i.2.1.length i.2.2.2.2.2, .slice none 0 0, .bool false] 85, rowR 3 1 i.2.2.2.2.1 i.2.1.length i.2.2.2.2.2 (Nv i.2.1), mapR im gI gBo i.2.2.1 i.2.2.2.1], []⟩) (I := fun (i : Nat × List Nat × MB × Nat × Option Addr × Nat) => i.1 ≤ i.2.1.length ∧ Bf pts tris (p1, p2) q0 i.2.1 i.1 0 ∧ InL i.2.2.1 i.2.1) (m := fun (i : Nat × List Nat × MB × Nat × Option Addr × Nat) => tris.length - i.1) (i := _) ((k + 1, q2, L2, c2, A2, cA2)) (μd := [_]) ⟨by have := hB2.len; have := hq12; dsimp only; omega, hB2.next, hL2⟩ (by have := hB.len; dsimp only; omega) (And.intro rfl (And.intro rfl (And.intro rfl (And.intro rfl (And.intro rfl (And.intro rfl (trivial))))))) (permI [0, 0, 0, 1, 1, 1] rfl) (fun _ h => nomatch h) (fun _ h => h)
   ·simp only [decide_eq_false_iff_not] at h59
    have hk9 : k = q1.length := by omega
    have hq10 : 0 < q1.length := by
     obtain ⟨y, hy⟩ : ∃ y, y ∈ q0 := ⟨_, List.getElem_mem hq00⟩
     exact List.length_pos_of_mem (hB.ini y hy)
    have hq1l := hB.len
    refine CJ_exit ?_
    refine QJ_then_exit ?_
    refine QJ_then_exit ?_
    refine QJ_in_exit ?_
    refine QJ_then ?_
    refine CJ_seq ?_
    refine CJ_reg ?_
    refine LJ_y rfl rfl (YJ_fieldOwn rfl fld_85_0 rfl) ?_
    refine LJ_y rfl rfl (YJ_loadL rfl tyi_55 m0 rfl) ?_
    refine LJ_callP (μ1 := [_]) (μr := [_, _, _, _, _]) (permI [1] rfl) rfl rfl rfl rfl rfl (sortI_tri (zs := toI q1) (by unfold toI; rw [List.length_map]) (by omega) (by have := hB.len; omega)) (fun _ h => nomatch h) ?_
    rintro - -
    obtain ⟨ts, hts, htp, hto⟩ := toI_sort q1
    rw [← hts]
    have htl := htp.length_eq
    have hq1l := hB.len
    have hD := (show Bf pts tris (p1, p2) q0 q1 q1.length 0 from hk9 ▸ hB).done htp hto
    rw [← htl]
    show LJ _ _ _ _ _ (_ :: _ :: _ :: _ :: _ :: _ :: _) _
    refine LJ_nil ?_
    refine QJ_then ?_
    refine CJ_seq ?_
    refine CJ_freezeRowK (n' := ts.length) (xs' := Nv ts) 0 rfl rfl rfl ?_
    show CJ _ _ _ _ (_ :: _ :: _ :: _ :: _ :: _) _
    refine CJ_reg ?_
    refine LJ_makeMap rfl rfl ?_
    intro bm
    refine LJ_y rfl rfl (YJ_assign rfl) ?_
    refine LJ_nil ?_
    refine QJ_then ?_
    refine CJ_seq ?_
    refine CJ_reg ?_
    refine LJ_y rfl rfl (YJ_move rfl) ?_
    refine LJ_y rfl rfl (YJ_nilCheck rfl) ?_
    refine LJ_y rfl rfl (YJ_fieldOwn rfl fld_57_0 rfl) ?_
    refine LJ_y rfl rfl (YJ_loadFactP (A := some ⟨B, 0, none⟩) (j := 0) rfl rfl tyi_26 m1 rfl) ?_
    refine LJ_y rfl rfl (YJ_len rfl ulen_26 rfl) ?_
    refine LJ_y rfl rfl (YJ_assign rfl) ?_
    refine LJ_nil ?_
    refine QJ_then ?_
    refine CJ_seq ?_
    refine CJ_seq ?_
    refine CJ_reg ?_
    refine LJ_y rfl rfl (YJ_fieldOwn rfl fld_85_0 rfl) ?_
    refine LJ_y rfl rfl (YJ_loadL rfl tyi_55 m1 rfl) ?_
    refine LJ_y rfl rfl (YJ_len rfl ulen_55 rfl) ?_
    refine LJ_y rfl rfl (YJ_move rfl) ?_
    refine LJ_nil ?_
    refine QJ_then ?_
    refine CJ_block ?_
    refine CJ_loopF (F := fun (i : Nat × MS × Nat × Int × Bool) => ⟨[(0, .pointer (some ⟨B, 0, none⟩)), (4, .pointer (some ⟨b1, 0, none⟩)), (7, .pointer (some ⟨b5, 0, none⟩)), (6, .pointer (some ⟨b3, 0, none⟩)), (8, .map (some im)), (15, .map (some bm)), (16, .int .i64 i.2.2.2.1), (115, .slice A1 ts.length cA1), (116, .int .i64 ts.length), (117, .int .i64 (i.1 : Nat))], [mapR bm gI gS i.2.1 i.2.2.1, cellsR b5 #[.slice A1 ts.length cA1, .slice none 0 0, .bool i.2.2.2.2] 85], []⟩) (I := fun (i : Nat × MS × Nat × Int × Bool) => i.1 ≤ ts.length ∧ i.2 = dFold (cfN pts tris (p1, p2)) (pts.length : Nat) (sdL tris ts (ts.take i.1)) ∧ i.2.1.length ≤ 3 * i.1) (m := fun (i : Nat × MS × Nat × Int × Bool) => ts.length - i.1) (0, [], 0, (pts.length : Nat), false) (μr := [_, _, _, _]) ⟨Nat.zero_le _, rfl, Nat.le_refl _⟩ (And.intro rfl (And.intro rfl (And.intro rfl (And.intro rfl (And.intro rfl (And.intro rfl (And.intro rfl (And.intro rfl (And.intro rfl (And.intro rfl (trivial))))))))))) (permI [] rfl) (fun _ h => nomatch h) ?_
    rintro ⟨j, Lb, cb, le, cu⟩ ⟨hj, hF, hbl⟩
    try dsimp only at hj
    try dsimp only at hF
    try dsimp only at hbl
    show CJ _ _ _ [(0, .pointer (some ⟨B, 0, none⟩)), (4, .pointer (some ⟨b1, 0, none⟩)), (7, .pointer (some ⟨b5, 0, none⟩)), (6, .pointer (some ⟨b3, 0, none⟩)), (8, .map (some im)), (15, .map (some bm)), (16, .int .i64 le), (115, .slice A1 ts.length cA1), (116, .int .i64 ts.length), (117, .int .i64 (j : Nat))] (mapR bm gI gS Lb cb :: cellsR b5 #[.slice A1 ts.length cA1, .slice none 0 0, .bool cu] 85 :: _ :: _ :: _ :: _ :: _) _
    refine CJ_seq ?_
    refine CJ_reg ?_
    refine LJ_y rfl rfl (YJ_bin rfl rfl rfl) ?_
    refine LJ_nil ?_
    refine QJ_then ?_
    refine CJ_seq ?_
    refine CJ_cond rfl (fun h118 => ?_) (fun h118 => ?_)
    ·simp only [decide_eq_true_eq] at h118
     obtain ⟨x, hx⟩ : ∃ x, ts[j]? = some x := ⟨_, List.getElem?_eq_getElem (by omega)⟩
     obtain ⟨t, ht, htv⟩ := hD.lv x (List.mem_of_getElem? hx)
     have hxl := (List.getElem?_eq_some_iff.1 ht).1
     refine CJ_skip ?_
     refine QJ_then ?_
     refine CJ_seq ?_
     refine CJ_block ?_
     refine CJ_seq ?_
     refine CJ_reg ?_
     refine LJ_y rfl rfl (YJ_ixFact (n' := ts.length) rfl rfl elt_55 m0 (by decide) (by omega) (by omega) (by omega)) ?_
     refine LJ_y rfl rfl (YJ_loadFactP (A := A1) (j := j) rfl (congrArg _ (by omega)) tyi_3 m0 (Nv_at hx)) ?_
     refine LJ_y rfl rfl (YJ_assign rfl) ?_
     refine LJ_nil ?_
     refine QJ_then ?_
     refine CJ_seq ?_
     refine CJ_reg ?_
     refine LJ_y rfl rfl (YJ_move rfl) ?_
     refine LJ_y rfl rfl (YJ_nilCheck rfl) ?_
     refine LJ_y rfl rfl (YJ_fieldOwn rfl fld_57_1 rfl) ?_
     refine LJ_y rfl rfl (YJ_loadFactP (A := some ⟨B, 0, none⟩) (j := 1) rfl rfl tyi_54 m1 rfl) ?_
     refine LJ_y rfl rfl (YJ_move rfl) ?_
     refine LJ_y rfl rfl (YJ_ixFact rfl rfl elt_54 m3 (by decide) (by omega) (by omega) (by omega)) ?_
     refine LJ_y rfl rfl (YJ_loadFactN (vs := [.int .i64 t.v0, .int .i64 t.v1, .int .i64 t.v2, .int .i64 t.n0, .int .i64 t.n1, .int .i64 t.n2, .bool t.f0, .bool t.f1, .bool t.f2]) (xs := trCells tris) rfl tyi_37 m3 (trCells_row (cast_idx ht)) rfl) ?_
     refine LJ_alloc (cs := #[_, _, _, _, _, _, _, _, _]) rfl rfl zer_37 rfl ?_
     intro b11
     refine LJ_store (cs' := #[.int .i64 t.v0, .int .i64 t.v1, .int .i64 t.v2, .int .i64 t.n0, .int .i64 t.n1, .int .i64 t.n2, .bool t.f0, .bool t.f1, .bool t.f2]) (μ' := [_, _, _, _, _, _, _]) 0 rfl rfl rfl rfl tyi_37 rfl (Nat.le_of_ble_eq_true rfl) rfl (wr_all rfl) rfl ?_
     refine LJ_nil ?_
     refine QJ_then ?_
     refine CJ_seq ?_
     refine CJ_reg ?_
     refine LJ_y rfl rfl (YJ_fieldOwn rfl fld_37_1 rfl) ?_
     refine LJ_y rfl rfl (YJ_loadN (vs := [_, _, _]) rfl tyi_34 m0 rfl rfl) ?_
     refine LJ_y rfl rfl (YJ_move rfl) ?_
     refine LJ_nil ?_
     refine QJ_then ?_
     refine CJ_block ?_
     refine CJ_loopF (F := fun (i : Nat × MS × Nat × Int × Bool) => ⟨[(0, .pointer (some ⟨B, 0, none⟩)), (4, .pointer (some ⟨b1, 0, none⟩)), (7, .pointer (some ⟨b5, 0, none⟩)), (6, .pointer (some ⟨b3, 0, none⟩)), (8, .map (some im)), (15, .map (some bm)), (16, .int .i64 i.2.2.2.1), (18, .int .i64 (x : Nat)), (19, .pointer (some ⟨b11, 0, none⟩)), (115, .slice A1 ts.length cA1), (116, .int .i64 ts.length), (117, .int .i64 (j : Nat)), (129, .agg #[.int .i64 t.n0, .int .i64 t.n1, .int .i64 t.n2]), (130, .int .i64 (i.1 : Nat))], [mapR bm gI gS i.2.1 i.2.2.1, cellsR b5 #[.slice A1 ts.length cA1, .slice none 0 0, .bool i.2.2.2.2] 85], []⟩) (I := fun (i : Nat × MS × Nat × Int × Bool) => i.1 ≤ 3 ∧ i.2 = dFold (cfN pts tris (p1, p2)) (pts.length : Nat) (sdL tris ts (ts.take j) ++ sdK tris ts t x i.1) ∧ i.2.1.length ≤ 3 * j + i.1) (m := fun (i : Nat × MS × Nat × Int × Bool) => 3 - i.1) (0, Lb, cb, le, cu) (μr := [_, _, _, _, _]) ⟨Nat.zero_le _, by dsimp only; rw [hF]; simp [sdK], by dsimp only; omega⟩ (And.intro rfl (And.intro rfl (And.intro rfl (And.intro rfl (And.intro rfl (And.intro rfl (And.intro rfl (And.intro rfl (And.intro rfl (And.intro rfl (And.intro rfl (And.intro rfl (And.intro rfl (And.intro rfl (trivial))))))))))))))) (permI [1, 1] rfl) (fun _ h => nomatch h) ?_
     rintro ⟨k, Lb1, cb1, le1, cu1⟩ ⟨hk, hF1, hbl1⟩
     try dsimp only at hk
     try dsimp only at hF1
     try dsimp only at hbl1
     show CJ _ _ _ [(0, .pointer (some ⟨B, 0, none⟩)), (4, .pointer (some ⟨b1, 0, none⟩)), (7, .pointer (some ⟨b5, 0, none⟩)), (6, .pointer (some ⟨b3, 0, none⟩)), (8, .map (some im)), (15, .map (some bm)), (16, .int .i64 le1), (18, .int .i64 (x : Nat)), (19, .pointer (some ⟨b11, 0, none⟩)), (115, .slice A1 ts.length cA1), (116, .int .i64 ts.length), (117, .int .i64 (j : Nat)), (129, .agg #[.int .i64 t.n0, .int .i64 t.n1, .int .i64 t.n2]), (130, .int .i64 (k : Nat))] (mapR bm gI gS Lb1 cb1 :: cellsR b5 #[.slice A1 ts.length cA1, .slice none 0 0, .bool cu1] 85 :: _ :: _ :: _ :: _ :: _ :: _) _
     refine CJ_seq ?_
     refine CJ_reg ?_
     refine LJ_y rfl rfl (YJ_bin rfl rfl rfl) ?_
     refine LJ_nil ?_
     refine QJ_then ?_
     refine CJ_seq ?_
     refine CJ_cond rfl (fun h131 => ?_) (fun h131 => ?_)
     ·simp only [decide_eq_true_eq] at h131
      have hk3 : k < 3 := by omega
      obtain ⟨u, hu, o, ho, ho2⟩ := hM.nb x t ht htv k hk3
      have hul := (List.getElem?_eq_some_iff.1 ho).1
      refine CJ_skip ?_
      refine QJ_then ?_
      refine CJ_seq ?_
      refine CJ_block ?_
      refine CJ_seq ?_
      refine CJ_reg ?_
      refine LJ_y rfl rfl (YJ_move rfl) ?_
      refine LJ_y rfl rfl (YJ_index1 rfl rfl arrt_34 tyi_3 (by omega) (by omega) (n_get hk3)) ?_
      refine LJ_val (v := .int .i64 (u : Nat)) (congrArg (Value.int .i64) hu) ?_
      refine LJ_y rfl rfl (YJ_assign rfl) ?_
      refine LJ_y rfl rfl (YJ_assign rfl) ?_
      refine LJ_nil ?_
      refine QJ_then ?_
      refine CJ_seq ?_
      refine CJ_seq ?_
      refine CJ_reg ?_
      refine LJ_y rfl rfl (YJ_move rfl) ?_
      refine LJ_y rfl rfl (YJ_move rfl) ?_
      refine LJ_y rfl rfl (YJ_lookup (f := gI) (g := gBo) (k := (u : Int)) rfl rfl umap_129 keyI zer_4 (MapAt_own (l := L1) (c := c1) m3) rfl) ?_
      refine LJ_val (v := .bool (decide (u ∈ ts))) (getD_mapB.trans (congrArg Value.bool ((InL.at hL1 u).trans (decide_eq_decide.2 htp.mem_iff.symm)))) ?_
      refine LJ_nil ?_
      refine QJ_then ?_
      refine CJ_cond rfl (fun h136 => ?_) (fun h136 => ?_)
      ·simp only [decide_eq_true_eq] at h136
       refine CJ_exit ?_
       refine QJ_then_exit ?_
       refine QJ_in_exit ?_
       refine QJ_then ?_
       refine CJ_reg ?_
       refine LJ_y rfl rfl (YJ_bin rfl rfl (iop_add (by omega))) ?_
       refine LJ_y rfl rfl (YJ_move rfl) ?_
       refine LJ_nil ?_
       refine QJ_roundF (F := fun (i : Nat × MS × Nat × Int × Bool) => ⟨[(0, .pointer (some ⟨B, 0, none⟩)), (4, .pointer (some ⟨b1, 0, none⟩)), (7, .pointer (some ⟨b5, 0, none⟩)), (6, .pointer (some ⟨b3, 0, none⟩)), (8, .map (some im)), (15, .map (some bm)), (16, .int .i64 i.2.2.2.1), (18, .int .i64 (x : Nat)), (19, .pointer (some ⟨b11, 0, none⟩)), (115, .slice A1 ts.length cA1), (116, .int .i64 ts.length), (117, .int .i64 (j : Nat)), (129, .agg #[.int .i64 t.n0, .int .i64 t.n1, .int .i64 t.n2]), (130, .int .i64 (i.1 : Nat))], [mapR bm gI gS i.2.1 i.2.2.1, cellsR b5 #[.slice A1 ts.length cA1, .slice none 0 0, .bool i.2.2.2.2] 85], []⟩) (I := fun (i : Nat × MS × Nat × Int × Bool) => i.1 ≤ 3 ∧ i.2 = dFold (cfN pts tris (p1, p2)) (pts.length : Nat) (sdL tris ts (ts.take j) ++ sdK tris ts t x i.1) ∧ i.2.1.length ≤ 3 * j + i.1) (m := fun (i : Nat × MS × Nat × Int × Bool) => 3 - i.1) (i := (k, Lb1, cb1, le1, cu1)) ((k + 1, Lb1, cb1, le1, cu1)) (μd := []) ⟨by omega, by dsimp only; rw [sdK_in hu h136]; exact hF1, by dsimp only; omega⟩ (by dsimp only; omega) (And.intro rfl (And.intro rfl (And.intro rfl (And.intro rfl (And.intro rfl (And.intro rfl (And.intro rfl (And.intro rfl (And.intro rfl (And.intro rfl (And.intro rfl (And.intro rfl (And.intro rfl (And.intro rfl (trivial))))))))))))))) (permI [] rfl) (fun _ h => nomatch h) (fun _ h => h)
      ·simp only [decide_eq_false_iff_not] at h136
       refine CJ_skip ?_
       refine QJ_then ?_
       refine CJ_seq ?_
       refine CJ_regDA mix (by kernel_rfl) (fun _ _ _ _ _ h => h) _ _ (fun _ h => h) (fun _ h => h) [⟨18, 22, 89, #[.int .i64 0, .int .i64 0, .int .i64 0, .int .i64 0, .bool false]⟩] 19 rfl (And.intro ⟨_, _, _, _, rfl, zer_89, rfl⟩ (trivial)) rfl rfl ?_
       refine AA_y 0 rfl (by kernel_rfl) rfl rfl rfl (YJ_move rfl) ?_
       refine AA_y 1 rfl (by kernel_rfl) rfl rfl rfl (YJ_bin rfl rfl (iop_add (by omega))) ?_
       refine AA_y 2 rfl (by kernel_rfl) rfl rfl rfl (YJ_rem rfl rfl (by first | decide | omega)) ?_
       refine AA_val (v := .int .i64 (((k + 1) % 3 : Nat) : Int)) (congrArg (Value.int .i64) (tm3 (j := 1) hk3 (by decide))) ?_
       refine AA_y 3 rfl (by kernel_rfl) rfl rfl rfl (YJ_fieldOwn rfl fld_37_0 rfl) ?_
       refine AA_y 4 rfl (by kernel_rfl) rfl rfl rfl (YJ_ixArr rfl rfl arrt_34 (by omega) (by omega) rfl) ?_
       refine AA_y 5 rfl (by kernel_rfl) rfl rfl rfl (YJ_load1 rfl tyi_3 m2 (v_get (t := t) (Nat.mod_lt (k + 1) (by decide)))) ?_
       refine AA_y 6 rfl (by kernel_rfl) rfl rfl rfl (YJ_move rfl) ?_
       refine AA_y 7 rfl (by kernel_rfl) rfl rfl rfl (YJ_bin rfl rfl (iop_add (by omega))) ?_
       refine AA_y 8 rfl (by kernel_rfl) rfl rfl rfl (YJ_rem rfl rfl (by first | decide | omega)) ?_
       refine AA_val (v := .int .i64 (((k + 2) % 3 : Nat) : Int)) (congrArg (Value.int .i64) (tm3 (j := 2) hk3 (by decide))) ?_
       refine AA_y 9 rfl (by kernel_rfl) rfl rfl rfl (YJ_fieldOwn rfl fld_37_0 rfl) ?_
       refine AA_y 10 rfl (by kernel_rfl) rfl rfl rfl (YJ_ixArr rfl rfl arrt_34 (by omega) (by omega) rfl) ?_
       refine AA_y 11 rfl (by kernel_rfl) rfl rfl rfl (YJ_load1 rfl tyi_3 m2 (v_get (t := t) (Nat.mod_lt (k + 2) (by decide)))) ?_
       refine AA_y 12 rfl (by kernel_rfl) rfl rfl rfl (YJ_move rfl) ?_
       refine AA_y 13 rfl (by kernel_rfl) rfl rfl rfl (YJ_move rfl) ?_
       refine AA_y 14 rfl (by kernel_rfl) rfl rfl rfl (YJ_fieldOwn rfl fld_37_2 rfl) ?_
       refine AA_y 15 rfl (by kernel_rfl) rfl rfl rfl (YJ_ixArr rfl rfl arrt_35 (by omega) (by omega) rfl) ?_
       refine AA_y 16 rfl (by kernel_rfl) rfl rfl rfl (YJ_load1 rfl tyi_4 m2 (fa_get (t := t) hk3)) ?_
       refine AA_y 17 rfl (by kernel_rfl) rfl rfl rfl (YJ_build1 (cs := [_, _, _, _, _]) lay_89 rfl rfl rfl) ?_
       refine AA_end (by kernel_rfl) rfl ?_
       intro bs hbs
       obtain ⟨b12, rfl⟩ := len_1 hbs
       clear hbs
       show AJ _ _ _ _ _ _ _ ((22, .pointer (some ⟨b12, 0, none⟩)) :: _) (cellsR b12 _ _ :: _) _
       refine AJ_store (cs' := #[_, _, _, _, _]) (μ' := [_, _, _, _, _, _, _, _]) 19 0 rfl (by kernel_rfl) rfl rfl rfl rfl tyi_89 rfl (Nat.le_of_ble_eq_true rfl) rfl rfl rfl (fun _ => AllIn.sub (And.intro m1 (And.intro m2 (And.intro m3 (And.intro m4 (And.intro m5 (And.intro m6 (And.intro m7 (trivial))))))))) ?_
       refine AJ_done (by kernel_rfl) ?_
       refine QJ_then ?_
       refine CJ_seq ?_
       refine CJ_reg ?_
       refine LJ_y rfl rfl (YJ_move rfl) ?_
       refine LJ_y rfl rfl (YJ_nilCheck rfl) ?_
       refine LJ_y rfl rfl (YJ_fieldOwn rfl fld_57_1 rfl) ?_
       refine LJ_y rfl rfl (YJ_loadFactP (A := some ⟨B, 0, none⟩) (j := 1) rfl rfl tyi_54 m1 rfl) ?_
       refine LJ_y rfl rfl (YJ_move rfl) ?_
       refine LJ_y rfl rfl (YJ_ixFact rfl rfl elt_54 m3 (by decide) (by omega) (by omega) (by omega)) ?_
       refine LJ_y rfl rfl (YJ_fieldAddr rfl fld_37_1) ?_
       refine LJ_y rfl rfl (YJ_sliceArr rfl arrt_34) ?_
       refine LJ_val (v := .slice (some ⟨gT, u * 9 + 3, none⟩) 3 3) (by rw [hTg]; show Value.slice (some (((⟨gT, 0, none⟩ : Addr).add (((u : Nat) : Int).toNat * 9)).add 3)) 3 3 = _; rw [Addr.add_lit, Addr.add_lit]; simp) ?_
       refine LJ_y rfl rfl (YJ_move rfl) ?_
       refine LJ_addF (r := sliceR 9 h.T tris.length (trCells tris)) (r' := sliceR 1 (some ⟨gT, u * 9 + 3, none⟩) 3 (Iv [o.n0, o.n1, o.n2])) m3 (fun w S hh => sub_n ho w S (hTg ▸ hh)) ?_
       refine LJ_call0 rfl rfl rfl rfl rfl (index_gc (b := gT) (o := u * 9 + 3) (n := 3) (xs := [o.n0, o.n1, o.n2]) (x := (x : Int)) rfl (by decide) (by decide)) (AllIn.sub (And.intro m0 trivial)) ?_
       refine LJ_y rfl rfl (YJ_fieldOwn rfl fld_89_3 rfl) ?_
       refine LJ_store (cs' := #[_, _, _, _, _]) (μ' := [_, _, _, _, _, _, _, _]) 0 rfl rfl rfl rfl tyi_3 rfl (Nat.le_of_ble_eq_true rfl) rfl rfl rfl ?_
       refine LJ_nil ?_
       refine QJ_then ?_
       refine CJ_seq ?_
       refine CJ_reg ?_
       refine LJ_y rfl rfl (YJ_move rfl) ?_
       refine LJ_y rfl rfl (YJ_fieldOwn rfl fld_89_0 rfl) ?_
       refine LJ_y rfl rfl (YJ_loadL rfl tyi_3 m0 rfl) ?_
       refine LJ_y rfl rfl (YJ_loadN (vs := [_, _, _, _, _]) rfl tyi_89 m0 rfl rfl) ?_
       refine LJ_mapUpdate (f := gI) (g := gS) (k := (t.v ((k + 1) % 3))) (v := (t.v ((k + 1) % 3), t.v ((k + 2) % 3), (u : Int), Lib.idxOf [o.n0, o.n1, o.n2] (x : Int), t.fl k)) 1 rfl rfl rfl rfl rfl umap_131 keyI rfl rfl ?_
       show LJ _ _ _ _ _ (_ :: _ :: _ :: _ :: _ :: _ :: _ :: _ :: _) _
       refine LJ_nil ?_
       refine QJ_then ?_
       refine CJ_seq ?_
       refine CJ_reg ?_
       refine LJ_y rfl rfl (YJ_move rfl) ?_
       refine LJ_y rfl rfl (YJ_fieldOwn rfl fld_89_0 rfl) ?_
       refine LJ_y rfl rfl (YJ_loadL rfl tyi_3 m0 rfl) ?_
       refine LJ_y rfl rfl (YJ_min2 rfl rfl) ?_
       refine LJ_y rfl rfl (YJ_assign rfl) ?_
       refine LJ_nil ?_
       refine QJ_then ?_
       refine CJ_reg ?_
       refine LJ_y rfl rfl (YJ_fieldOwn rfl fld_85_2 rfl) ?_
       refine LJ_y rfl rfl (YJ_loadL rfl tyi_4 m2 rfl) ?_
       refine LJ_y rfl rfl (YJ_move rfl) ?_
       refine LJ_boolC (fun h176 => ?_) (fun h176 => ?_)
       ·skip
        refine LJ_skip rfl rfl ?_
        refine LJ_skip rfl rfl ?_
        refine LJ_skip rfl rfl ?_
        refine LJ_skip rfl rfl ?_
        refine LJ_skip rfl rfl ?_
        refine LJ_skip rfl rfl ?_
        refine LJ_skip rfl rfl ?_
        refine LJ_skip rfl rfl ?_
        refine LJ_y rfl rfl (YJ_pickT rfl rfl) ?_
        refine LJ_val (v := .bool (cu1 || (t.fl k && cfN pts tris (p1, p2) u))) (by rw [h176]; rfl) ?_
        refine LJ_y rfl rfl (YJ_fieldOwn rfl fld_85_2 rfl) ?_
        refine LJ_store (cs' := #[_, _, _]) (μ' := [_, _, _, _, _, _, _, _]) 2 rfl rfl rfl rfl tyi_4 rfl (Nat.le_of_ble_eq_true rfl) rfl rfl rfl ?_
        refine LJ_nil ?_
        refine QJ_in_normal ?_
        refine QJ_then ?_
        refine CJ_reg ?_
        refine LJ_y rfl rfl (YJ_bin rfl rfl (iop_add (by omega))) ?_
        refine LJ_y rfl rfl (YJ_move rfl) ?_
        refine LJ_nil ?_
        refine QJ_roundF (F := fun (i : Nat × MS × Nat × Int × Bool) => ⟨[(0, .pointer (some ⟨B, 0, none⟩)), (4, .pointer (some ⟨b1, 0, none⟩)), (7, .pointer (some ⟨b5, 0, none⟩)), (6, .pointer (some ⟨b3, 0, none⟩)), (8, .map (some im)), (15, .map (some bm)), (16, .int .i64 i.2.2.2.1), (18, .int .i64 (x : Nat)), (19, .pointer (some ⟨b11, 0, none⟩)), (115, .slice A1 ts.length cA1), (116, .int .i64 ts.length), (117, .int .i64 (j : Nat)), (129, .agg #[.int .i64 t.n0, .int .i64 t.n1, .int .i64 t.n2]), (130, .int .i64 (i.1 : Nat))], [mapR bm gI gS i.2.1 i.2.2.1, cellsR b5 #[.slice A1 ts.length cA1, .slice none 0 0, .bool i.2.2.2.2] 85], []⟩) (I := fun (i : Nat × MS × Nat × Int × Bool) => i.1 ≤ 3 ∧ i.2 = dFold (cfN pts tris (p1, p2)) (pts.length : Nat) (sdL tris ts (ts.take j) ++ sdK tris ts t x i.1) ∧ i.2.1.length ≤ 3 * j + i.1) (m := fun (i : Nat × MS × Nat × Int × Bool) => 3 - i.1) (i := (k, Lb1, cb1, le1, cu1)) ((k + 1, mput (t.v ((k + 1) % 3)) (t.v ((k + 1) % 3), t.v ((k + 2) % 3), (u : Int), Lib.idxOf [o.n0, o.n1, o.n2] (x : Int), t.fl k) Lb1 cb1, mclk (t.v ((k + 1) % 3)) Lb1 cb1, min le1 (t.v ((k + 1) % 3)), cu1 || (t.fl k && cfN pts tris (p1, p2) u))) (μd := [_]) ⟨by omega, by dsimp only; rw [sdK_out hu h136 ho, ← List.append_assoc, dFold_app, ← hF1]; rfl, by have := mput_len (k := t.v ((k + 1) % 3)) (v := (t.v ((k + 1) % 3), t.v ((k + 2) % 3), (u : Int), Lib.idxOf [o.n0, o.n1, o.n2] (x : Int), t.fl k)) (l := Lb1) (c := cb1); dsimp only; omega⟩ (by dsimp only; omega) (And.intro rfl (And.intro rfl (And.intro rfl (And.intro rfl (And.intro rfl (And.intro rfl (And.intro rfl (And.intro rfl (And.intro rfl (And.intro rfl (And.intro rfl (And.intro rfl (And.intro rfl (And.intro rfl (trivial))))))))))))))) (permI [1, 1, 1, 1, 1, 1, 1] rfl) (fun _ h => nomatch h) (fun _ h => .tail _ h)
       ·skip
        refine LJ_y rfl rfl (YJ_fieldOwn rfl fld_89_4 rfl) ?_
        refine LJ_y rfl rfl (YJ_loadL rfl tyi_4 m0 rfl) ?_
        refine LJ_y rfl rfl (YJ_move rfl) ?_
        refine LJ_boolC (fun h179 => ?_) (fun h179 => ?_)
        ·skip
         refine LJ_y rfl rfl (YJ_move rfl) ?_
         refine LJ_y rfl rfl (YJ_move rfl) ?_
         refine LJ_y rfl rfl (YJ_loadN (vs := [_, _]) rfl tyi_23 m5 rfl rfl) ?_
         refine LJ_call0 rfl rfl rfl rfl rfl (conflict_c (h := h) hP ho (hM.ok u o ho ho2) (by omega) hp) (fun r h => .tail _ (.tail _ h)) ?_
         refine LJ_val (v := .bool (cfN pts tris (p1, p2) u)) (congrArg Value.bool (cfN_at ho).symm) ?_
         refine LJ_y rfl rfl (YJ_pickT rfl rfl) ?_
         refine LJ_y rfl rfl (YJ_pickF rfl rfl) ?_
         refine LJ_val (v := .bool (cu1 || (t.fl k && cfN pts tris (p1, p2) u))) (by rw [h176, h179]; rfl) ?_
         refine LJ_y rfl rfl (YJ_fieldOwn rfl fld_85_2 rfl) ?_
         refine LJ_store (cs' := #[_, _, _]) (μ' := [_, _, _, _, _, _, _, _]) 2 rfl rfl rfl rfl tyi_4 rfl (Nat.le_of_ble_eq_true rfl) rfl rfl rfl ?_
         refine LJ_nil ?_
         refine QJ_in_normal ?_
         refine QJ_then ?_
         refine CJ_reg ?_
         refine LJ_y rfl rfl (YJ_bin rfl rfl (iop_add (by omega))) ?_
         refine LJ_y rfl rfl (YJ_move rfl) ?_
         refine LJ_nil ?_
         refine QJ_roundF (F := fun (i : Nat × MS × Nat × Int × Bool) => ⟨[(0, .pointer (some ⟨B, 0, none⟩)), (4, .pointer (some ⟨b1, 0, none⟩)), (7, .pointer (some ⟨b5, 0, none⟩)), (6, .pointer (some ⟨b3, 0, none⟩)), (8, .map (some im)), (15, .map (some bm)), (16, .int .i64 i.2.2.2.1), (18, .int .i64 (x : Nat)), (19, .pointer (some ⟨b11, 0, none⟩)), (115, .slice A1 ts.length cA1), (116, .int .i64 ts.length), (117, .int .i64 (j : Nat)), (129, .agg #[.int .i64 t.n0, .int .i64 t.n1, .int .i64 t.n2]), (130, .int .i64 (i.1 : Nat))], [mapR bm gI gS i.2.1 i.2.2.1, cellsR b5 #[.slice A1 ts.length cA1, .slice none 0 0, .bool i.2.2.2.2] 85], []⟩) (I := fun (i : Nat × MS × Nat × Int × Bool) => i.1 ≤ 3 ∧ i.2 = dFold (cfN pts tris (p1, p2)) (pts.length : Nat) (sdL tris ts (ts.take j) ++ sdK tris ts t x i.1) ∧ i.2.1.length ≤ 3 * j + i.1) (m := fun (i : Nat × MS × Nat × Int × Bool) => 3 - i.1) (i := (k, Lb1, cb1, le1, cu1)) ((k + 1, mput (t.v ((k + 1) % 3)) (t.v ((k + 1) % 3), t.v ((k + 2) % 3), (u : Int), Lib.idxOf [o.n0, o.n1, o.n2] (x : Int), t.fl k) Lb1 cb1, mclk (t.v ((k + 1) % 3)) Lb1 cb1, min le1 (t.v ((k + 1) % 3)), cu1 || (t.fl k && cfN pts tris (p1, p2) u))) (μd := [_]) ⟨by omega, by dsimp only; rw [sdK_out hu h136 ho, ← List.append_assoc, dFold_app, ← hF1]; rfl, by have := mput_len (k := t.v ((k + 1) % 3)) (v := (t.v ((k + 1) % 3), t.v ((k + 2) % 3), (u : Int), Lib.idxOf [o.n0, o.n1, o.n2] (x : Int), t.fl k)) (l := Lb1) (c := cb1); dsimp only; omega⟩ (by dsimp only; omega) (And.intro rfl (And.intro rfl (And.intro rfl (And.intro rfl (And.intro rfl (And.intro rfl (And.intro rfl (And.intro rfl (And.intro rfl (And.intro rfl (And.intro rfl (And.intro rfl (And.intro rfl (And.intro rfl (trivial))))))))))))))) (permI [1, 1, 1, 1, 1, 1, 1] rfl) (fun _ h => nomatch h) (fun _ h => .tail _ h)
        ·skip
         refine LJ_skip rfl rfl ?_
         refine LJ_skip rfl rfl ?_
         refine LJ_skip rfl rfl ?_
         refine LJ_skip rfl rfl ?_
         refine LJ_y rfl rfl (YJ_pickF rfl rfl) ?_
         refine LJ_y rfl rfl (YJ_pickF rfl rfl) ?_
         refine LJ_val (v := .bool (cu1 || (t.fl k && cfN pts tris (p1, p2) u))) (by rw [h176, h179]; rfl) ?_
         refine LJ_y rfl rfl (YJ_fieldOwn rfl fld_85_2 rfl) ?_
         refine LJ_store (cs' := #[_, _, _]) (μ' := [_, _, _, _, _, _, _, _]) 2 rfl rfl rfl rfl tyi_4 rfl (Nat.le_of_ble_eq_true rfl) rfl rfl rfl ?_
         refine LJ_nil ?_
         refine QJ_in_normal ?_
         refine QJ_then ?_
         refine CJ_reg ?_
         refine LJ_y rfl rfl (YJ_bin rfl rfl (iop_add (by omega))) ?_
         refine LJ_y rfl rfl (YJ_move rfl) ?_
         refine LJ_nil ?_
         refine QJ_roundF (F := fun (i : Nat × MS × Nat × Int × Bool) => ⟨[(0, .pointer (some ⟨B, 0, none⟩)), (4, .pointer (some ⟨b1, 0, none⟩)), (7, .pointer (some ⟨b5, 0, none⟩)), (6, .pointer (some ⟨b3, 0, none⟩)), (8, .map (some im)), (15, .map (some bm)), (16, .int .i64 i.2.2.2.1), (18, .int .i64 (x : Nat)), (19, .pointer (some ⟨b11, 0, none⟩)), (115, .slice A1 ts.length cA1), (116, .int .i64 ts.length), (117, .int .i64 (j : Nat)), (129, .agg #[.int .i64 t.n0, .int .i64 t.n1, .int .i64 t.n2]), (130, .int .i64 (i.1 : Nat))], [mapR bm gI gS i.2.1 i.2.2.1, cellsR b5 #[.slice A1 ts.length cA1, .slice none 0 0, .bool i.2.2.2.2] 85], []⟩) (I := fun (i : Nat × MS × Nat × Int × Bool) => i.1 ≤ 3 ∧ i.2 = dFold (cfN pts tris (p1, p2)) (pts.length : Nat) (sdL tris ts (ts.take j) ++ sdK tris ts t x i.1) ∧ i.2.1.length ≤ 3 * j + i.1) (m := fun (i : Nat × MS × Nat × Int × Bool) => 3 - i.1) (i := (k, Lb1, cb1, le1, cu1)) ((k + 1, mput (t.v ((k + 1) % 3)) (t.v ((k + 1) % 3), t.v ((k + 2) % 3), (u : Int), Lib.idxOf [o.n0, o.n1, o.n2] (x : Int), t.fl k) Lb1 cb1, mclk (t.v ((k + 1) % 3)) Lb1 cb1, min le1 (t.v ((k + 1) % 3)), cu1 || (t.fl k && cfN pts tris (p1, p2) u))) (μd := [_]) ⟨by omega, by dsimp only; rw [sdK_out hu h136 ho, ← List.append_assoc, dFold_app, ← hF1]; rfl, by have := mput_len (k := t.v ((k + 1) % 3)) (v := (t.v ((k + 1) % 3), t.v ((k + 2) % 3), (u : Int), Lib.idxOf [o.n0, o.n1, o.n2] (x : Int), t.fl k)) (l := Lb1) (c := cb1); dsimp only; omega⟩ (by dsimp only; omega) (And.intro rfl (And.intro rfl (And.intro rfl (And.intro rfl (And.intro rfl (And.intro rfl (And.intro rfl (And.intro rfl (And.intro rfl (And.intro rfl (And.intro rfl (And.intro rfl (And.intro rfl (And.intro rfl (trivial))))))))))))))) (permI [1, 1, 1, 1, 1, 1, 1] rfl) (fun _ h => nomatch h) (fun _ h => .tail _ h)
     ·simp only [decide_eq_false_iff_not] at h131
      have hk3 : k = 3 := by omega
      subst hk3
      refine CJ_exit ?_
      refine QJ_then_exit ?_
      refine QJ_then_exit ?_
      refine QJ_in_exit ?_
      refine QJ_in_normal ?_
      refine QJ_then ?_
      refine CJ_reg ?_
      refine LJ_y rfl rfl (YJ_bin rfl rfl (iop_add (by omega))) ?_
      refine LJ_y rfl rfl (YJ_move rfl) ?_
      refine LJ_nil ?_
      refine QJ_roundF (F := fun (i : Nat × MS × Nat × Int × Bool) => ⟨[(0, .pointer (some ⟨B, 0, none⟩)), (4, .pointer (some ⟨b1, 0, none⟩)), (7, .pointer (some ⟨b5, 0, none⟩)), (6, .pointer (some ⟨b3, 0, none⟩)), (8, .map (some im)), (15, .map (some bm)), (16, .int .i64 i.2.2.2.1), (115, .slice A1 ts.length cA1), (116, .int .i64 ts.length), (117, .int .i64 (i.1 : Nat))], [mapR bm gI gS i.2.1 i.2.2.1, cellsR b5 #[.slice A1 ts.length cA1, .slice none 0 0, .bool i.2.2.2.2] 85], []⟩) (I := fun (i : Nat × MS × Nat × Int × Bool) => i.1 ≤ ts.length ∧ i.2 = dFold (cfN pts tris (p1, p2)) (pts.length : Nat) (sdL tris ts (ts.take i.1)) ∧ i.2.1.length ≤ 3 * i.1) (m := fun (i : Nat × MS × Nat × Int × Bool) => ts.length - i.1) (i := (j, Lb, cb, le, cu)) ((j + 1, Lb1, cb1, le1, cu1)) (μd := [_]) ⟨by omega, by dsimp only; rw [sdL_snoc hx ht]; exact hF1, by dsimp only; omega⟩ (by dsimp only; omega) (And.intro rfl (And.intro rfl (And.intro rfl (And.intro rfl (And.intro rfl (And.intro rfl (And.intro rfl (And.intro rfl (And.intro rfl (And.intro rfl (trivial))))))))))) (permI [0, 0, 1, 1, 1, 1] rfl) (fun _ h => nomatch h) (fun _ h => h)
    ·simp only [decide_eq_false_iff_not] at h118
     have hj9 : j = ts.length := by omega
     rw [hj9, List.take_length] at hF
     have hR : rimOf pts tris (p1, p2) ts = rimL Lb le Lb.length := by unfold rimOf dSt; rw [← hF]
     have hC : cutOf pts tris (p1, p2) ts = cu := by unfold cutOf dSt; rw [← hF]
     refine CJ_exit ?_
     refine QJ_then_exit ?_
     refine QJ_then_exit ?_
     refine QJ_in_exit ?_
     refine QJ_then ?_
     refine CJ_seq ?_
     refine CJ_seq ?_
     refine CJ_newRow 89 5 ?_
     refine CJ_reg ?_
     refine LJ_y rfl rfl (YJ_move rfl) ?_
     refine LJ_y rfl rfl (YJ_assign rfl) ?_
     refine LJ_nil ?_
     refine QJ_then ?_
     refine CJ_block ?_
     refine CJ_loopF (F := fun (i : Nat × Option Addr × Nat) => ⟨[(7, .pointer (some ⟨b5, 0, none⟩)), (6, .pointer (some ⟨b3, 0, none⟩)), (15, .map (some bm)), (23, .int .i64 (itS Lb i.1 le))], [cellsR b5 #[.slice A1 ts.length cA1, .slice i.2.1 i.1 i.2.2, .bool cu] 85, rowR 89 5 i.2.1 i.1 i.2.2 (sdCells (rimL Lb le i.1))], []⟩) (I := fun (i : Nat × Option Addr × Nat) => i.1 ≤ Lb.length) (m := fun (i : Nat × Option Addr × Nat) => Lb.length - i.1) (0, none, 0) (μr := [_, _, _, _, _]) (Nat.zero_le _) (And.intro rfl (And.intro rfl (And.intro rfl (And.intro rfl (trivial))))) (permI [2] rfl) (fun _ h => nomatch h) ?_
     rintro ⟨r, A0r, c0r⟩ hr
     try dsimp only at hr
     show CJ _ _ _ [(7, .pointer (some ⟨b5, 0, none⟩)), (6, .pointer (some ⟨b3, 0, none⟩)), (15, .map (some bm)), (23, .int .i64 (itS Lb r le))] (cellsR b5 #[.slice A1 ts.length cA1, .slice A0r r c0r, .bool cu] 85 :: rowR 89 5 A0r r c0r (sdCells (rimL Lb le r)) :: _ :: _ :: _ :: _ :: _ :: _) _
     refine CJ_seq ?_
     refine CJ_seq ?_
     refine CJ_reg ?_
     refine LJ_y rfl rfl (YJ_fieldOwn rfl fld_85_1 rfl) ?_
     refine LJ_y rfl rfl (YJ_loadL rfl tyi_83 m0 rfl) ?_
     refine LJ_y rfl rfl (YJ_len rfl ulen_83 rfl) ?_
     refine LJ_y rfl rfl (YJ_move rfl) ?_
     refine LJ_y rfl rfl (YJ_lenMap (f := gI) (g := gS) rfl umap_131 (MapAt_own (l := Lb) (c := cb) m2) rfl) ?_
     refine LJ_y rfl rfl (YJ_bin rfl rfl rfl) ?_
     refine LJ_nil ?_
     refine QJ_then ?_
     refine CJ_cond rfl (fun h195 => ?_) (fun h195 => ?_)
     ·simp only [decide_eq_true_eq] at h195
      refine CJ_skip ?_
      refine QJ_then ?_
      refine CJ_seq ?_
      refine CJ_block ?_
      refine CJ_reg ?_
      refine LJ_y rfl rfl (YJ_fieldOwn rfl fld_85_1 rfl) ?_
      refine LJ_y rfl rfl (YJ_loadL rfl tyi_83 m0 rfl) ?_
      refine LJ_y rfl rfl (YJ_move rfl) ?_
      refine LJ_y rfl rfl (YJ_move rfl) ?_
      refine LJ_y rfl rfl (YJ_lookup (f := gI) (g := gS) (k := (itS Lb r le)) rfl rfl umap_131 keyI zer_89 (MapAt_own (l := Lb) (c := cb) m2) rfl) ?_
      refine LJ_val (v := gS (getS Lb (itS Lb r le))) (getD_mapS) ?_
      refine LJ_buildSliceN (vs := [_]) (cs := [_, _, _, _, _]) rfl rfl elt_83 zer_89 (by decide) (by decide) rfl rfl rfl rfl rfl ?_
      intro b13
      refine LJ_append 2 rfl rfl elt_83 zer_89 rfl rfl rfl rfl (Rd_own m0) rfl rfl (by omega) (by omega) (by decide) ((sdCells_app _ (getS Lb (itS Lb r le))).trans (congrArg sdCells (rimL_succ Lb le r).symm)) ?_
      intro A8 c8
      show LJ _ _ _ _ _ (_ :: _ :: _ :: _ :: _ :: _ :: _ :: _ :: _) _
      refine LJ_y rfl rfl (YJ_fieldOwn rfl fld_85_1 rfl) ?_
      refine LJ_store (cs' := #[_, _, _]) (μ' := [_, _, _, _, _, _, _, _]) 1 rfl rfl rfl rfl tyi_83 rfl (Nat.le_of_ble_eq_true rfl) rfl rfl rfl ?_
      refine LJ_nil ?_
      refine QJ_in_normal ?_
      refine QJ_then ?_
      refine CJ_reg ?_
      refine LJ_y rfl rfl (YJ_move rfl) ?_
      refine LJ_y rfl rfl (YJ_move rfl) ?_
      refine LJ_y rfl rfl (YJ_lookup (f := gI) (g := gS) (k := (itS Lb r le)) rfl rfl umap_131 keyI zer_89 (MapAt_own (l := Lb) (c := cb) m3) rfl) ?_
      refine LJ_val (v := gS (getS Lb (itS Lb r le))) (getD_mapS) ?_
      refine LJ_y rfl rfl (YJ_fieldV rfl fldt_89_1 tyi_3 rfl) ?_
      refine LJ_y rfl rfl (YJ_assign rfl) ?_
      refine LJ_nil ?_
      refine QJ_roundF (F := fun (i : Nat × Option Addr × Nat) => ⟨[(7, .pointer (some ⟨b5, 0, none⟩)), (6, .pointer (some ⟨b3, 0, none⟩)), (15, .map (some bm)), (23, .int .i64 (itS Lb i.1 le))], [cellsR b5 #[.slice A1 ts.length cA1, .slice i.2.1 i.1 i.2.2, .bool cu] 85, rowR 89 5 i.2.1 i.1 i.2.2 (sdCells (rimL Lb le i.1))], []⟩) (I := fun (i : Nat × Option Addr × Nat) => i.1 ≤ Lb.length) (m := fun (i : Nat × Option Addr × Nat) => Lb.length - i.1) (i := (r, A0r, c0r)) ((r + 1, A8, c8)) (μd := [_]) (by dsimp only; omega) (by dsimp only; omega) (And.intro rfl (And.intro rfl (And.intro rfl (And.intro rfl (trivial))))) (permI [1, 1, 1, 1, 1, 1, 1] rfl) (fun _ h => nomatch h) (fun _ h => h)
     ·simp only [decide_eq_false_iff_not] at h195
      have hr9 : r = Lb.length := by omega
      subst hr9
      refine CJ_exit ?_
      refine QJ_then_exit ?_
      refine QJ_then_exit ?_
      refine QJ_in_exit ?_
      refine QJ_then ?_
      refine CJ_seq ?_
      refine CJ_freezeRowK (n' := Lb.length) (xs' := sdCells (rimL Lb le Lb.length)) 1 rfl rfl rfl ?_
      show CJ _ _ _ _ (_ :: _ :: _ :: _ :: _ :: _ :: _) _
      refine CJ_reg ?_
      refine LJ_y rfl rfl (YJ_loadN (vs := [_, _, _]) rfl tyi_85 m0 rfl rfl) ?_
      refine LJ_store (cs' := #[_, _, _]) (μ' := [_, _, _, _, _, _]) 5 rfl rfl rfl rfl tyi_85 rfl (Nat.le_of_ble_eq_true rfl) rfl rfl rfl ?_
      refine LJ_nil ?_
      refine QJ_then ?_
      refine CJ_ret ?_
      refine QJ_fin (.inl rfl) (μ' := []) (μr := _) (φ' := [sliceR 1 A1 ts.length (Nv ts), sliceR 5 A0r Lb.length (sdCells (rimL Lb le Lb.length))]) (res_cell (vs := [_, _, _]) rfl rfl m5 tyi_85 rfl) (List.Perm.refl _) (AllIn.sub (And.intro m1 (And.intro m0 trivial))) ?_
      exact ⟨(ts, A1, cA1, A0r, c0r), hD, by dsimp only; rw [hR, hC, rimL_len], rfl, by dsimp only; rw [hR, rimL_len]⟩
end Go.Proofs.Ytbanlhlggkdanaa
namespace Go.Proofs.Ytbanlhlggkdanaa
open Go.RowKit
theorem ent_39 : Enter Try.prog 39 = true := by kernel_rfl
theorem und_45 : (Try.prog.underlying 45).isSome = true := by kernel_rfl
theorem ent_38 : Enter Try.prog 38 = true := by kernel_rfl
theorem res_tcct {σ : List (Nat × Value)} {μ φ : List Res} {fn : Func} {P : Program} {t u r s : Tmp} {b c : Nat} {ct ct' dt dt' : TypeId} {n m : Nat} {vs ws : List Value} {v1 v2 : Value} (hfn : fn.results = #[.tmp t, .cell u ct, .cell r dt, .tmp s]) (h1 : lk t σ = some v1) (h2 : lk u σ = some (.pointer (some ⟨b, 0, none⟩))) (h3 : lk r σ = some (.pointer (some ⟨c, 0, none⟩))) (h4 : lk s σ = some v2)
  (m1 : cellsR b vs.toArray ct' ∈ μ) (m2 : cellsR c ws.toArray dt' ∈ μ) (k1 : tyi P ct = some (true, n)) (k2 : tyi P dt = some (true, m)) (l1 : vs.length = n) (l2 : ws.length = m) :
  ∀ a w, Slots σ a → Hold w μ → Hold w φ → (results fn a.tmps).run P w = .ok (.tuple #[v1, .agg vs.toArray, .agg ws.toArray, v2]) w := fun a w hs hmu _ => by
 obtain ⟨S, e1, _⟩ := hmu _ m1
 obtain ⟨S2, e2, _⟩ := hmu _ m2
 have q1 := hs t _ h1
 have q2 := hs u _ h2
 have q3 := hs r _ h3
 have q4 := hs s _ h4
 have r1 := run_loadVarN (P := P) (w := w) (a := ⟨b, 0, none⟩) k1 l1 (fun j v hj => by
  rw [Addr.add_lit, cell_of_row w b (0 + j) vs.toArray ct' (0, 0) e1]
  simpa using hj)
 have r2 := run_loadVarN (P := P) (w := w) (a := ⟨c, 0, none⟩) k2 l2 (fun j v hj => by
  rw [Addr.add_lit, cell_of_row w c (0 + j) ws.toArray dt' (0, 0) e2]
  simpa using hj)
 simp [results, hfn, q1, q2, q3, q4, asAddr, r1, r2]
section
variable {F : MapI} {W H : Nat} {f : Nat → Bool} {M : MD} {V : List (Nat × T3)}
theorem GM.okT (h : GM F W H f M V) : okTris M.pts M.tris := fun t ht hr => by
 have hv := h.vok t ht
 have q0 : t.v0 = -1 ∨ t.v0 = -2 ∨ (0 ≤ t.v0 ∧ t.v0 < M.pts.length) := hv 0 (by decide)
 have q1 : t.v1 = -1 ∨ t.v1 = -2 ∨ (0 ≤ t.v1 ∧ t.v1 < M.pts.length) := hv 1 (by decide)
 have q2 : t.v2 = -1 ∨ t.v2 = -2 ∨ (0 ≤ t.v2 ∧ t.v2 < M.pts.length) := hv 2 (by decide)
 obtain ⟨r0, r1, r2⟩ := hr
 refine ⟨?_, ?_, ?_⟩ <;> omega
end
abbrev MkT := Nat × MD × Mh × Nat
def mkOk (v : Int) (x : MkT) : Prop := ∃ F V, GM F (gW (v / 256)) (gW (v / 512)) (bitN v) x.2.1 V ∧ x.2.2.1.nf = x.2.1.free.length ∧ x.2.2.1.na = x.2.1.ats.length ∧ x.2.2.1.T = some ⟨x.2.2.2, 0, none⟩
set_option maxRecDepth 100000 in
set_option maxHeartbeats 8000000 in
theorem made11_c {v fa x y : Int} (hv : 0 ≤ v ∧ v < 4294967296) (hf : 0 ≤ fa ∧ fa < 4294967296) : Tri Try.prog 39 [.int .u32 v, .int .u32 fa, ptv x y] [] [] (RetX (fun q : MkT => mkOk v q) (fun q => .tuple #[.pointer (some ⟨q.1, 0, none⟩), ptv (tm x) (tm y), plV (look q.2.1.pts q.2.1.tris (tm x, tm y)), .bool (!decide ((look q.2.1.pts q.2.1.tris (tm x, tm y)).1 = 2))]) (fun _ => []) (fun q => frzFs q.1 q.2.1 q.2.2.1)) := by
 refine Tri_of (N := 40) Try.func39 rfl ent_39 rfl rfl ?_
 intro w0 S0 T0
 show CJ _ _ _ [(0, _), (1, _), (2, _)] _ _
 refine CJ_seq ?_
 refine CJ_reg ?_
 refine LJ_box (cs := #[_, _]) rfl rfl rfl rfl ?_
 intro b1
 refine LJ_y rfl rfl (YJ_assign rfl) ?_
 refine LJ_alloc (cs := #[_, _]) rfl rfl zer_23 rfl ?_
 intro b2
 refine LJ_alloc (cs := #[_, _, _, _]) rfl rfl zer_42 rfl ?_
 intro b3
 refine LJ_y rfl rfl (YJ_assign rfl) ?_
 refine LJ_nil ?_
 refine QJ_then ?_
 refine CJ_seq ?_
 refine CJ_reg ?_
 refine LJ_y rfl rfl (YJ_move rfl) ?_
 refine LJ_y rfl rfl (YJ_shr rfl rfl (by decide)) ?_
 refine LJ_y rfl rfl (YJ_convII rfl und_45 uint_3) ?_
 refine LJ_val (v := .int .i64 (v / 256)) (congrArg (Value.int .i64) (show IntKind.i64.wrap (v / 256) = v / 256 by rw [IntKind.wrap_i64]; omega)) ?_
 refine LJ_y rfl rfl (YJ_move rfl) ?_
 refine LJ_y rfl rfl (YJ_shr rfl rfl (by decide)) ?_
 refine LJ_y rfl rfl (YJ_convII rfl und_45 uint_3) ?_
 refine LJ_val (v := .int .i64 (v / 512)) (congrArg (Value.int .i64) (show IntKind.i64.wrap (v / 512) = v / 512 by rw [IntKind.wrap_i64]; omega)) ?_
 refine LJ_y rfl rfl (YJ_move rfl) ?_
 refine LJ_y rfl rfl (YJ_move rfl) ?_
 refine LJ_callP (μ1 := []) (μr := [_, _, _]) (permI [] rfl) rfl rfl rfl rfl rfl (grid_c (w := (v / 256)) (h := (v / 512)) (fa := fa) hv hf) (fun _ h => nomatch h) ?_
 rintro ⟨B9, F9, border, TA, cT⟩ ⟨hF9, hB9⟩
 dsimp only at hB9
 obtain ⟨V9, hG⟩ := grid_M (gW_or _) (gW_or _) hB9
 have hgp := (gPts_ok (gW_or ((v / 256))) (gW_or ((v / 512)))).2
 have hgl := (gPts_ok (gW_or ((v / 256))) (gW_or ((v / 512)))).1
 show LJ _ _ _ _ ((22, .tuple #[.pointer (some ⟨B9, 0, none⟩), .slice TA _ cT]) :: _) (meshR B9 (buildG F9 (gridR F9 (gW ((v / 256))) (gW ((v / 512))) (bitN v)) border).M :: _) _
 generalize (buildG F9 (gridR F9 (gW ((v / 256))) (gW ((v / 512))) (bitN v)) border).M = M9 at *
 rw [← hG.pts] at hgp hgl
 have hP : ∀ j, j < M9.pts.length → P2 (M9.pts.getD j (0, 0)).1 (M9.pts.getD j (0, 0)).2 := by
  intro j hj
  have := hgp (M9.pts.getD j (0, 0)) (by rw [List.getD_eq_getElem?_getD, List.getElem?_eq_getElem hj]; exact List.getElem_mem hj)
  exact ⟨⟨by omega, by omega⟩, ⟨by omega, by omega⟩⟩
 have hlen : M9.tris.length ≤ 1000000 := Nat.le_trans hG.len (by decide)
 have hal : M9.ats.length ≤ 1000000 := by
  rw [hG.ats, ← hG.pts]
  omega
 refine LJ_freezeMeshT (hG.four (gW_or _) (gW_or _)).2 (fun hm gT hmF hmA hTg => ?_)
 show LJ _ _ _ _ _ (_ :: _ :: _ :: _) _
 refine LJ_y rfl rfl (YJ_move rfl) ?_
 refine LJ_y rfl rfl (YJ_extract rfl rfl) ?_
 refine LJ_y rfl rfl (YJ_extract rfl rfl) ?_
 refine LJ_y rfl rfl (YJ_assign rfl) ?_
 refine LJ_y rfl rfl (YJ_assign rfl) ?_
 refine LJ_nil ?_
 refine QJ_then ?_
 refine CJ_seq ?_
 refine CJ_reg ?_
 refine LJ_y rfl rfl (YJ_loadN (vs := [_, _]) rfl tyi_23 m2 rfl rfl) ?_
 refine LJ_call0 rfl rfl rfl rfl rfl (tame_c (x := x) (y := y)) (fun _ h => nomatch h) ?_
 refine LJ_store (cs' := #[_, _]) (μ' := [_, _, _]) 2 rfl rfl rfl rfl tyi_23 rfl (Nat.le_of_ble_eq_true rfl) rfl rfl rfl ?_
 refine LJ_nil ?_
 refine QJ_then ?_
 refine CJ_seq ?_
 refine CJ_seq ?_
 refine CJ_reg ?_
 refine LJ_y rfl rfl (YJ_move rfl) ?_
 refine LJ_y rfl rfl (YJ_eqs rfl rfl (fun w => eqs_ptr ..)) ?_
 refine LJ_nil ?_
 refine QJ_then ?_
 refine CJ_condF rfl ?_
 refine CJ_skip ?_
 refine QJ_then ?_
 refine CJ_seq ?_
 refine CJ_reg ?_
 refine LJ_y rfl rfl (YJ_move rfl) ?_
 refine LJ_y rfl rfl (YJ_loadN (vs := [_, _]) rfl tyi_23 m2 rfl rfl) ?_
 refine LJ_call0 rfl rfl rfl rfl rfl (look_c (h := hm) hP hG.okT (by omega) (tm_p x y)) (fun r h => frz_mesh r h) ?_
 refine LJ_alloc (cs := #[_, _, _, _]) rfl rfl zer_42 rfl ?_
 intro b4
 refine LJ_store (cs' := #[_, _, _, _]) (μ' := [_, _, _, _]) 0 rfl rfl rfl rfl tyi_42 rfl (Nat.le_of_ble_eq_true rfl) rfl rfl rfl ?_
 refine LJ_nil ?_
 refine QJ_then ?_
 refine CJ_seq ?_
 refine CJ_regD mix (by kernel_rfl) (fun _ _ _ _ _ h => h) (selR [0, 3] _) _ (selR_sub _ _) (fun _ h => h) ?_
 refine AJ_y 0 rfl (by kernel_rfl) (by kernel_rfl) rfl rfl (YJ_move rfl) ?_
 refine AJ_y 1 rfl (by kernel_rfl) (by kernel_rfl) rfl rfl (YJ_loadN (vs := [_, _]) rfl tyi_23 m1 rfl rfl) ?_
 refine AJ_y 2 rfl (by kernel_rfl) (by kernel_rfl) rfl rfl (YJ_loadN (vs := [_, _, _, _]) rfl tyi_42 m0 rfl rfl) ?_
 refine AJ_y 3 rfl (by kernel_rfl) (by kernel_rfl) rfl rfl (YJ_fieldOwn rfl fld_42_0 rfl) ?_
 refine AJ_y 4 rfl (by kernel_rfl) (by kernel_rfl) rfl rfl (YJ_loadL rfl tyi_3 m0 rfl) ?_
 refine AJ_y 5 rfl (by kernel_rfl) (by kernel_rfl) rfl rfl (YJ_bin rfl rfl rfl) ?_
 refine AJ_y 6 rfl (by kernel_rfl) (by kernel_rfl) rfl rfl (YJ_assign rfl) ?_
 refine AJ_store (cs' := #[_, _]) (μ' := [_, _, _, _]) 7 2 rfl (by kernel_rfl) rfl rfl rfl rfl tyi_23 rfl (Nat.le_of_ble_eq_true rfl) rfl rfl rfl (fun _ => AllIn.sub (And.intro m0 (And.intro m3 (trivial)))) ?_
 refine AJ_store (cs' := #[_, _, _, _]) (μ' := [_, _, _, _]) 8 1 rfl (by kernel_rfl) rfl rfl rfl rfl tyi_42 rfl (Nat.le_of_ble_eq_true rfl) rfl rfl rfl (fun _ => AllIn.sub (And.intro m0 (And.intro m3 (trivial)))) ?_
 refine AJ_y 9 rfl (by kernel_rfl) (by kernel_rfl) rfl rfl (YJ_assign rfl) ?_
 refine AJ_done (by kernel_rfl) ?_
 refine QJ_then ?_
 refine CJ_ret ?_
 refine QJ_fin (.inl rfl) (μ' := []) (μr := _) (φ' := (frzFs B9 M9 hm)) (res_tcct (vs := [_, _]) (ws := [_, _, _, _]) rfl rfl rfl rfl rfl m2 m1 tyi_23 tyi_42 rfl rfl) (List.Perm.refl _) (fun r h => List.mem_append_left _ h) ?_
 exact ⟨(B9, M9, hm, gT), ⟨F9, V9, hG, hmF, hmA, hTg⟩, rfl, rfl, rfl⟩
abbrev fitR : List (Int × Int) := [(0, 0), (3, 0), (0, 3)]
theorem fitR_ok : ∀ j, j < fitR.length → P2 (fitR.getD j (0, 0)).1 (fitR.getD j (0, 0)).2 := by
 intro j hj
 have : j = 0 ∨ j = 1 ∨ j = 2 := by simp at hj; omega
 rcases this with rfl | rfl | rfl <;> exact by unfold P2 Tm; simp
theorem fitR_look : look fitR (triNew 0 1 2) (1, 1) = (0, 0, 0, 0) := by decide +kernel
theorem fitR_okT : okTris fitR (triNew 0 1 2) := fun t ht hr => by
 simp only [triNew, List.mem_cons, List.not_mem_nil, or_false] at ht
 rcases ht with rfl | rfl | rfl | rfl
 ·exact ⟨by decide, by decide, by decide⟩
 all_goals exact absurd hr (by unfold Tr.real; decide)
theorem fitR_ms : MsOk fitR (triNew 0 1 2) := by
 have key : ∀ n, n < 4 → ∀ t, (triNew 0 1 2)[n]? = some t → cfOk 3 t ∧ ∀ i, i < 3 → ∃ u : Nat, t.n i = (u : Int) ∧ lvT (triNew 0 1 2) u := by
  intro n hn t ht
  have h4 : ∀ u : Nat, u < 4 → lvT (triNew 0 1 2) u := fun u hu => match u, hu with
   | 0, _ => ⟨_, rfl, by decide⟩
   | 1, _ => ⟨_, rfl, by decide⟩
   | 2, _ => ⟨_, rfl, by decide⟩
   | 3, _ => ⟨_, rfl, by decide⟩
  match n, hn with
  | 0, _ =>
   obtain rfl := Option.some.inj ht
   exact ⟨⟨by unfold Tr.v; decide, by unfold Tr.v; decide⟩, fun i hi => match i, hi with
    | 0, _ => ⟨1, rfl, h4 1 (by decide)⟩
    | 1, _ => ⟨2, rfl, h4 2 (by decide)⟩
    | 2, _ => ⟨3, rfl, h4 3 (by decide)⟩⟩
  | 1, _ =>
   obtain rfl := Option.some.inj ht
   exact ⟨⟨by unfold Tr.v; decide, by unfold Tr.v; decide⟩, fun i hi => match i, hi with
    | 0, _ => ⟨3, rfl, h4 3 (by decide)⟩
    | 1, _ => ⟨2, rfl, h4 2 (by decide)⟩
    | 2, _ => ⟨0, rfl, h4 0 (by decide)⟩⟩
  | 2, _ =>
   obtain rfl := Option.some.inj ht
   exact ⟨⟨by unfold Tr.v; decide, by unfold Tr.v; decide⟩, fun i hi => match i, hi with
    | 0, _ => ⟨1, rfl, h4 1 (by decide)⟩
    | 1, _ => ⟨3, rfl, h4 3 (by decide)⟩
    | 2, _ => ⟨0, rfl, h4 0 (by decide)⟩⟩
  | 3, _ =>
   obtain rfl := Option.some.inj ht
   exact ⟨⟨by unfold Tr.v; decide, by unfold Tr.v; decide⟩, fun i hi => match i, hi with
    | 0, _ => ⟨2, rfl, h4 2 (by decide)⟩
    | 1, _ => ⟨1, rfl, h4 1 (by decide)⟩
    | 2, _ => ⟨0, rfl, h4 0 (by decide)⟩⟩
 have hl : ∀ n t, (triNew 0 1 2)[n]? = some t → n < 4 := fun n t ht => (List.getElem?_eq_some_iff.1 ht).1
 exact ⟨fun n t ht _ => (key n (hl n t ht) t ht).1, fun n t ht _ => (key n (hl n t ht) t ht).2⟩
theorem fitR_ts {ts : List Nat} (h : DgOk fitR (triNew 0 1 2) (1, 1) [0] ts) : ts = [0] := by
 have h1 : ∀ x, x ∈ ts → x = 0 := h.mn (· = 0) (fun x hx => by simpa using hx) (fun n t hn ht i hi u hu hf hc => by
  subst hn
  obtain rfl := Option.some.inj ht
  have : u = 1 ∨ u = 2 ∨ u = 3 := by
   match i, hi with
   | 0, _ => have : (1 : Int) = u := hu; omega
   | 1, _ => have : (2 : Int) = u := hu; omega
   | 2, _ => have : (3 : Int) = u := hu; omega
  rcases this with rfl | rfl | rfl
  ·exact absurd hc (by decide +kernel)
  ·exact absurd hc (by decide +kernel)
  ·exact absurd hc (by decide +kernel))
 have h0 := h.ini 0 (by simp)
 have hs := h.so
 match ts, h1, h0, hs with
 | [], _, h0, _ => simp at h0
 | [a], h1, _, _ => rw [h1 a (by simp)]
 | a :: b :: l, h1, _, hs =>
  have := h1 a (by simp)
  have := h1 b (by simp)
  have := (List.pairwise_cons.1 hs).1 b (by simp)
  omega
theorem fitR_rim : rimOf fitR (triNew 0 1 2) (1, 1) [0] = [(0, 1, 3, 2, false), (1, 2, 1, 2, false), (2, 0, 2, 2, false)] ∧ cutOf fitR (triNew 0 1 2) (1, 1) [0] = false := by decide +kernel
set_option maxRecDepth 100000 in
set_option maxHeartbeats 8000000 in
theorem fit11_c  : Tri Try.prog 38 [] [] [] (Ret0 (.bool true)) := by
 refine Tri_of (N := 60) Try.func38 rfl ent_38 rfl rfl ?_
 intro w0 S0 T0
 show CJ _ _ _ [] _ _
 refine CJ_seq ?_
 refine CJ_reg ?_
 refine LJ_y rfl rfl (YJ_assign rfl) ?_
 refine LJ_nil ?_
 refine QJ_then ?_
 refine CJ_seq ?_
 refine CJ_reg ?_
 refine LJ_y rfl rfl (YJ_build1 (cs := [_, _]) lay_23 rfl rfl rfl) ?_
 refine LJ_y rfl rfl (YJ_build1 (cs := [_, _]) lay_23 rfl rfl rfl) ?_
 refine LJ_y rfl rfl (YJ_build1 (cs := [_, _]) lay_23 rfl rfl rfl) ?_
 refine LJ_buildSliceN (vs := [_, _, _]) (cs := [_, _, _, _, _, _]) rfl rfl elt_26 zer_23 (by decide) (by decide) rfl rfl rfl rfl rfl ?_
 intro b1
 refine LJ_freeze ?_
 refine LJ_addF (r' := sliceR 2 (some ⟨b1, 0, none⟩) 3 (ptCells fitR)) (.head _) (fun w S h => cellsR_slice (n := 3) rfl w S h) ?_
 refine LJ_callN rfl rfl rfl rfl rfl (new_pos (pts := fitR) (a := 0) (b := 1) (c := 2) (by decide) (by decide) (by decide) (by decide) fitR_ok (by decide)) (fun r h => by rw [List.mem_singleton] at h; subst h; exact .head _) ?_
 intro Bm _
 refine LJ_freezeMeshT (show 0 < 4 by decide) (fun hm gT hmF hmA hTg => ?_)
 refine LJ_y rfl rfl (YJ_move rfl) ?_
 refine LJ_y rfl rfl (YJ_extract rfl rfl) ?_
 refine LJ_y rfl rfl (YJ_extract rfl rfl) ?_
 refine LJ_y rfl rfl (YJ_assign rfl) ?_
 refine LJ_y rfl rfl (YJ_assign rfl) ?_
 refine LJ_nil ?_
 refine QJ_then ?_
 refine CJ_seq ?_
 refine CJ_seq ?_
 refine CJ_reg ?_
 refine LJ_y rfl rfl (YJ_move rfl) ?_
 refine LJ_y rfl rfl (YJ_not rfl) ?_
 refine LJ_y rfl rfl (YJ_move rfl) ?_
 refine LJ_bool (c := false) rfl ?_
 refine LJ_y rfl rfl (YJ_move rfl) ?_
 refine LJ_y rfl rfl (YJ_eqs rfl rfl (fun w => eqs_ptr ..)) ?_
 refine LJ_y rfl rfl (YJ_pickF rfl rfl) ?_
 refine LJ_nil ?_
 refine QJ_then ?_
 refine CJ_condF rfl ?_
 refine CJ_skip ?_
 refine QJ_then ?_
 refine CJ_seq ?_
 refine CJ_reg ?_
 refine LJ_y rfl rfl (YJ_build1 (cs := [_, _]) lay_23 rfl rfl rfl) ?_
 refine LJ_alloc (cs := #[_, _]) rfl rfl zer_23 rfl ?_
 intro b2
 refine LJ_store (cs' := #[_, _]) (μ' := [_]) 0 rfl rfl rfl rfl tyi_23 rfl (Nat.le_of_ble_eq_true rfl) rfl rfl rfl ?_
 refine LJ_nil ?_
 refine QJ_then ?_
 refine CJ_seq ?_
 refine CJ_reg ?_
 refine LJ_y rfl rfl (YJ_move rfl) ?_
 refine LJ_y rfl rfl (YJ_loadN (vs := [_, _]) rfl tyi_23 m0 rfl rfl) ?_
 refine LJ_call0 rfl rfl rfl rfl rfl (look_c (h := hm) (pts := fitR) (tris := triNew 0 1 2) (p1 := 1) (p2 := 1) fitR_ok fitR_okT (show 4 ≤ 1073741824 by decide) ⟨by unfold Tm; decide, by unfold Tm; decide⟩) (fun r h => frz_mesh r h) ?_
 refine LJ_val (v := plV (0, 0, 0, 0)) (congrArg plV fitR_look) ?_
 refine LJ_alloc (cs := #[_, _, _, _]) rfl rfl zer_42 rfl ?_
 intro b3
 refine LJ_store (cs' := #[_, _, _, _]) (μ' := [_, _]) 0 rfl rfl rfl rfl tyi_42 rfl (Nat.le_of_ble_eq_true rfl) rfl rfl rfl ?_
 refine LJ_nil ?_
 refine QJ_then ?_
 refine CJ_seq ?_
 refine CJ_reg ?_
 refine LJ_y rfl rfl (YJ_move rfl) ?_
 refine LJ_y rfl rfl (YJ_loadN (vs := [_, _]) rfl tyi_23 m1 rfl rfl) ?_
 refine LJ_y rfl rfl (YJ_loadN (vs := [_, _, _, _]) rfl tyi_42 m0 rfl rfl) ?_
 refine LJ_callX rfl rfl rfl rfl rfl (dig_c (h := hm) (pts := fitR) (tris := triNew 0 1 2) (p1 := 1) (p2 := 1) (kd := 0) (pa := 0) (pb := 0) (n0 := 0) (n1 := 0) (q0 := [0]) fitR_ok ⟨by unfold Tm; decide, by unfold Tm; decide⟩ (show 4 ≤ 1000000 by decide) (by decide) hTg fitR_ms (t0 := ⟨0, 1, 2, 1, 2, 3, false, false, false⟩) rfl (fun q => by cases q) rfl (fun x hx => by rw [List.mem_singleton] at hx; subst hx; exact ⟨_, rfl, by decide⟩) (by simp)) (fun r h => frz_mesh r h) ?_
 rintro ⟨ts, A1, c1, A2, c2⟩ hD
 obtain rfl := fitR_ts hD
 dsimp only [List.nil_append]
 rw [fitR_rim.1, fitR_rim.2]
 refine LJ_alloc (cs := #[_, _, _]) rfl rfl zer_85 rfl ?_
 intro b4
 refine LJ_store (cs' := #[_, _, _]) (μ' := [_, _, _]) 0 rfl rfl rfl rfl tyi_85 rfl (Nat.le_of_ble_eq_true rfl) rfl rfl rfl ?_
 refine LJ_nil ?_
 refine QJ_then ?_
 refine CJ_seq ?_
 refine CJ_regD mix (by kernel_rfl) (fun _ _ _ _ _ h => h) _ _ (fun _ h => h) (fun _ h => h) ?_
 refine AJ_y 0 rfl (by kernel_rfl) (by kernel_rfl) rfl rfl (YJ_fieldOwn rfl fld_85_0 rfl) ?_
 refine AJ_y 1 rfl (by kernel_rfl) (by kernel_rfl) rfl rfl (YJ_loadL rfl tyi_55 m0 rfl) ?_
 refine AJ_y 2 rfl (by kernel_rfl) (by kernel_rfl) rfl rfl (YJ_len rfl ulen_55 rfl) ?_
 refine AJ_y 3 rfl (by kernel_rfl) (by kernel_rfl) rfl rfl (YJ_bin rfl rfl rfl) ?_
 refine AJ_y 4 rfl (by kernel_rfl) (by kernel_rfl) rfl rfl (YJ_move rfl) ?_
 refine AJ_bool (c := true) rfl ?_
 refine AJ_y 5 rfl (by kernel_rfl) (by kernel_rfl) rfl rfl (YJ_fieldOwn rfl fld_85_0 rfl) ?_
 refine AJ_y 6 rfl (by kernel_rfl) (by kernel_rfl) rfl rfl (YJ_loadL rfl tyi_55 m0 rfl) ?_
 refine AJ_y 7 rfl (by kernel_rfl) (by kernel_rfl) rfl rfl (YJ_ixFact (n' := 1) rfl rfl elt_55 m0 (by decide) (by omega) (by decide) (by decide)) ?_
 refine AJ_y 8 rfl (by kernel_rfl) (by kernel_rfl) rfl rfl (YJ_loadFactP (A := A1) (j := 0) rfl rfl tyi_3 m0 rfl) ?_
 refine AJ_y 9 rfl (by kernel_rfl) (by kernel_rfl) rfl rfl (YJ_fieldOwn rfl fld_42_1 rfl) ?_
 refine AJ_y 10 rfl (by kernel_rfl) (by kernel_rfl) rfl rfl (YJ_loadL rfl tyi_3 m1 rfl) ?_
 refine AJ_y 11 rfl (by kernel_rfl) (by kernel_rfl) rfl rfl (YJ_bin rfl rfl rfl) ?_
 refine AJ_y 12 rfl (by kernel_rfl) (by kernel_rfl) rfl rfl (YJ_pickT rfl rfl) ?_
 refine AJ_y 13 rfl (by kernel_rfl) (by kernel_rfl) rfl rfl (YJ_move rfl) ?_
 refine AJ_bool (c := true) rfl ?_
 refine AJ_y 14 rfl (by kernel_rfl) (by kernel_rfl) rfl rfl (YJ_fieldOwn rfl fld_85_1 rfl) ?_
 refine AJ_y 15 rfl (by kernel_rfl) (by kernel_rfl) rfl rfl (YJ_loadL rfl tyi_83 m0 rfl) ?_
 refine AJ_y 16 rfl (by kernel_rfl) (by kernel_rfl) rfl rfl (YJ_len rfl ulen_83 rfl) ?_
 refine AJ_y 17 rfl (by kernel_rfl) (by kernel_rfl) rfl rfl (YJ_bin rfl rfl rfl) ?_
 refine AJ_y 18 rfl (by kernel_rfl) (by kernel_rfl) rfl rfl (YJ_pickT rfl rfl) ?_
 refine AJ_y 19 rfl (by kernel_rfl) (by kernel_rfl) rfl rfl (YJ_move rfl) ?_
 refine AJ_bool (c := true) rfl ?_
 refine AJ_y 20 rfl (by kernel_rfl) (by kernel_rfl) rfl rfl (YJ_fieldOwn rfl fld_85_2 rfl) ?_
 refine AJ_y 21 rfl (by kernel_rfl) (by kernel_rfl) rfl rfl (YJ_loadL rfl tyi_4 m0 rfl) ?_
 refine AJ_y 22 rfl (by kernel_rfl) (by kernel_rfl) rfl rfl (YJ_not rfl) ?_
 refine AJ_y 23 rfl (by kernel_rfl) (by kernel_rfl) rfl rfl (YJ_pickT rfl rfl) ?_
 refine AJ_y 24 rfl (by kernel_rfl) (by kernel_rfl) rfl rfl (YJ_move rfl) ?_
 refine AJ_bool (c := true) rfl ?_
 refine AJ_y 25 rfl (by kernel_rfl) (by kernel_rfl) rfl rfl (YJ_fieldOwn rfl fld_85_1 rfl) ?_
 refine AJ_y 26 rfl (by kernel_rfl) (by kernel_rfl) rfl rfl (YJ_loadL rfl tyi_83 m0 rfl) ?_
 refine AJ_y 27 rfl (by kernel_rfl) (by kernel_rfl) rfl rfl (YJ_ixFact (n' := 3) rfl rfl elt_83 m1 (by decide) (by omega) (by decide) (by decide)) ?_
 refine AJ_y 28 rfl (by kernel_rfl) (by kernel_rfl) rfl rfl (YJ_fieldAddr rfl fld_89_0) ?_
 refine AJ_y 29 rfl (by kernel_rfl) (by kernel_rfl) rfl rfl (YJ_loadFactP (A := A2) (j := 0) rfl (by rw [Addr.add_add] <;> rfl) tyi_3 m1 rfl) ?_
 refine AJ_y 30 rfl (by kernel_rfl) (by kernel_rfl) rfl rfl (YJ_bin rfl rfl rfl) ?_
 refine AJ_y 31 rfl (by kernel_rfl) (by kernel_rfl) rfl rfl (YJ_pickT rfl rfl) ?_
 refine AJ_y 32 rfl (by kernel_rfl) (by kernel_rfl) rfl rfl (YJ_assign rfl) ?_
 refine AJ_done (by kernel_rfl) ?_
 refine QJ_then ?_
 refine CJ_ret ?_
 refine QJ_fin (.inl rfl) (μ' := []) (μr := _) (φ' := []) (res_tmp rfl rfl) (List.Perm.refl _) (fun _ h => nomatch h) ?_
 exact ⟨congrArg Value.bool (by first | rfl | kernel_rfl), rfl, rfl⟩
end Go.Proofs.Ytbanlhlggkdanaa
namespace Go.Proofs.Ytbanlhlggkdanaa
open Go.RowKit
def shV (pts : List (Int × Int)) (v : T3) : Int × Int := (min (ptAt pts v.1).1 (min (ptAt pts v.2.1).1 (ptAt pts v.2.2).1), min (ptAt pts v.1).2 (min (ptAt pts v.2.1).2 (ptAt pts v.2.2).2))
def shB (pts : List (Int × Int)) (W H : Nat) (v : T3) : Bool :=
 let X := (shV pts v).1; let Y := (shV pts v).2
 decide (0 ≤ X ∧ X + 2 ≤ 2 * W ∧ 0 ≤ Y ∧ Y + 2 ≤ 2 * H) && (decide (ptAt pts v.1 = (X, Y) ∧ ptAt pts v.2.1 = (X + 2, Y) ∧ ptAt pts v.2.2 = (X + 2, Y + 2)) || (decide (ptAt pts v.1 = (X + 2, Y + 2) ∧ ptAt pts v.2.1 = (X, Y + 2) ∧ ptAt pts v.2.2 = (X, Y)) ||
  (decide (ptAt pts v.1 = (X + 2, Y) ∧ ptAt pts v.2.1 = (X, Y + 2) ∧ ptAt pts v.2.2 = (X, Y)) || decide (ptAt pts v.1 = (X, Y + 2) ∧ ptAt pts v.2.1 = (X + 2, Y) ∧ ptAt pts v.2.2 = (X + 2, Y + 2)))))
def mrB (G : List T3) : Bool := G.all fun v => G.all fun w => [0, 1, 2].all fun i => [0, 1, 2].all fun j => decide (i = j) || (!decide (rev2 (kv v i) ∈ eds w) || !decide (rev2 (kv v j) ∈ eds w))
def vtB (W H : Nat) (f : Nat → Bool) : Bool :=
 let P := gPts W H; let T := gTris W H f
 P.all (fun p => T.all fun v => !hdV P v p || (decide (ptAt P v.1 = p) || (decide (ptAt P v.2.1 = p) || decide (ptAt P v.2.2 = p)))) && (T.all (shB P W H) && (mrB (gAll W H f) && decide ((gAll W H f).filter (fun v => decide (rv v)) = T)))
set_option maxRecDepth 100000 in
theorem vtB_all : ∀ b0 b1 b2 b3 : Bool, vtB 1 1 (bit4 b0 b1 b2 b3) = true ∧ vtB 1 2 (bit4 b0 b1 b2 b3) = true ∧ vtB 2 1 (bit4 b0 b1 b2 b3) = true ∧ vtB 2 2 (bit4 b0 b1 b2 b3) = true := by decide +kernel
section
variable {W H : Nat} {f : Nat → Bool}
theorem vtB_true (hW : W = 1 ∨ W = 2) (hH : H = 1 ∨ H = 2) : vtB W H f = true := by
 have := vtB_all (f 0) (f 1) (f 2) (f 3)
 unfold vtB gAll at this ⊢
 rw [gTris_nf hW hH]
 rcases hW with rfl | rfl <;> rcases hH with rfl | rfl
 ·exact this.1
 ·exact this.2.1
 ·exact this.2.2.1
 ·exact this.2.2.2
theorem inB_true (hW : W = 1 ∨ W = 2) (hH : H = 1 ∨ H = 2) : inB W H f = true := by
 have := inB_all (f 0) (f 1) (f 2) (f 3)
 unfold inB inP inK gAll at this ⊢
 rw [gTris_nf hW hH]
 rcases hW with rfl | rfl <;> rcases hH with rfl | rfl
 ·exact this.1
 ·exact this.2.1
 ·exact this.2.2.1
 ·exact this.2.2.2
theorem outB_true (hW : W = 1 ∨ W = 2) (hH : H = 1 ∨ H = 2) : outB W H f = true := by
 have := outB_all (f 0) (f 1) (f 2) (f 3)
 unfold outB outC gAll at this ⊢
 rw [gTris_nf hW hH]
 rcases hW with rfl | rfl <;> rcases hH with rfl | rfl
 ·exact this.1
 ·exact this.2.1
 ·exact this.2.2.1
 ·exact this.2.2.2
end
def inBox (W H : Nat) (p : Int × Int) : Prop := (0 ≤ p.1 ∧ p.1 ≤ 2 * W) ∧ 0 ≤ p.2 ∧ p.2 ≤ 2 * H
theorem A2_h {x y z a b : Int} : A2 x y z y a b = (z - x) * (b - y) := by unfold A2 det; grind
theorem A2_v {x y z a b : Int} : A2 x y x z a b = - ((z - y) * (a - x)) := by unfold A2 det; grind
theorem A2_d1 {X Y a b : Int} : A2 (X + 2) (Y + 2) X Y a b = 2 * (a - X) - 2 * (b - Y) := by unfold A2 det; grind
theorem A2_d2 {X Y a b : Int} : A2 X Y (X + 2) (Y + 2) a b = 2 * (b - Y) - 2 * (a - X) := by unfold A2 det; grind
theorem A2_d3 {X Y a b : Int} : A2 (X + 2) Y X (Y + 2) a b = 4 - 2 * (b - Y) - 2 * (a - X) := by unfold A2 det; grind
theorem A2_d4 {X Y a b : Int} : A2 X (Y + 2) (X + 2) Y a b = 2 * (b - Y) + 2 * (a - X) - 4 := by unfold A2 det; grind
theorem hdV_box {pts : List (Int × Int)} {W H : Nat} {v : T3} {p : Int × Int} (hs : shB pts W H v = true) (hh : hdV pts v p = true) : inBox W H p := by
 unfold shB at hs
 generalize (shV pts v).1 = X at hs
 generalize (shV pts v).2 = Y at hs
 simp only [Bool.and_eq_true, Bool.or_eq_true, decide_eq_true_eq] at hs
 obtain ⟨⟨x0, x1, y0, y1⟩, hs⟩ := hs
 unfold hdV at hh
 obtain ⟨h0, h1, h2⟩ := of_decide_eq_true hh
 have h0 : ¬ A2 (ptAt pts v.2.1).1 (ptAt pts v.2.1).2 (ptAt pts v.2.2).1 (ptAt pts v.2.2).2 p.1 p.2 < 0 := h0
 have h1 : ¬ A2 (ptAt pts v.2.2).1 (ptAt pts v.2.2).2 (ptAt pts v.1).1 (ptAt pts v.1).2 p.1 p.2 < 0 := h1
 have h2 : ¬ A2 (ptAt pts v.1).1 (ptAt pts v.1).2 (ptAt pts v.2.1).1 (ptAt pts v.2.1).2 p.1 p.2 < 0 := h2
 have e1 : ∀ z w : Int, (z + 2 - z) * w = 2 * w := fun z w => by grind
 have e2 : ∀ z w : Int, (z - (z + 2)) * w = - (2 * w) := fun z w => by grind
 unfold inBox
 rcases hs with ⟨q1, q2, q3⟩ | ⟨q1, q2, q3⟩ | ⟨q1, q2, q3⟩ | ⟨q1, q2, q3⟩ <;> rw [q1, q2] at h2 <;> rw [q2, q3] at h0 <;> rw [q3, q1] at h1 <;> dsimp only at h0 h1 h2
 ·rw [A2_h, e1] at h2; rw [A2_v, e1] at h0; rw [A2_d1] at h1; omega
 ·rw [A2_h, e2] at h2; rw [A2_v, e2] at h0; rw [A2_d2] at h1; omega
 ·rw [A2_d3] at h2; rw [A2_v, e2] at h0; rw [A2_h, e1] at h1; omega
 ·rw [A2_d4] at h2; rw [A2_v, e1] at h0; rw [A2_h, e2] at h1; omega
theorem sq4 {z : Int} (h : z ≤ -2 ∨ 2 ≤ z) : 4 ≤ z * z := by
 rcases h with h | h
 ·have := Int.mul_le_mul (show 2 ≤ -z by omega) (show 2 ≤ -z by omega) (by decide) (by omega)
  rw [Int.neg_mul_neg] at this
  omega
 ·have := Int.mul_le_mul h h (by decide) (by omega)
  omega
theorem sq0 (z : Int) : 0 ≤ z * z := by
 rcases Int.le_total 0 z with h | h
 ·exact Int.mul_nonneg h h
 ·have := Int.mul_nonneg (show 0 ≤ -z by omega) (show 0 ≤ -z by omega)
  rw [Int.neg_mul_neg] at this
  exact this
theorem Inc_1 {X Y a b : Int} : Inc X Y (X + 2) Y (X + 2) (Y + 2) a b = 8 - 4 * ((a - X - 1) * (a - X - 1)) - 4 * ((b - Y - 1) * (b - Y - 1)) := by unfold Inc inc det; grind
theorem Inc_2 {X Y a b : Int} : Inc (X + 2) (Y + 2) X (Y + 2) X Y a b = 8 - 4 * ((a - X - 1) * (a - X - 1)) - 4 * ((b - Y - 1) * (b - Y - 1)) := by unfold Inc inc det; grind
theorem Inc_3 {X Y a b : Int} : Inc (X + 2) Y X (Y + 2) X Y a b = 8 - 4 * ((a - X - 1) * (a - X - 1)) - 4 * ((b - Y - 1) * (b - Y - 1)) := by unfold Inc inc det; grind
theorem Inc_4 {X Y a b : Int} : Inc X (Y + 2) (X + 2) Y (X + 2) (Y + 2) a b = 8 - 4 * ((a - X - 1) * (a - X - 1)) - 4 * ((b - Y - 1) * (b - Y - 1)) := by unfold Inc inc det; grind
theorem cfV_out {pts : List (Int × Int)} {W H : Nat} {v : T3} {p : Int × Int} (hs : shB pts W H v = true) (hr : rv v) (hp : ¬ inBox W H p) : cfV pts v p = false := by
 unfold cfV
 rw [cfB_no (fun j hj => match j, hj with
  | 0, _ => by have : 0 ≤ v.1 := hr.1; show v.1 ≠ -1; omega
  | 1, _ => by have : 0 ≤ v.2.1 := hr.2.1; show v.2.1 ≠ -1; omega
  | 2, _ => by have : 0 ≤ v.2.2 := hr.2.2; show v.2.2 ≠ -1; omega)]
 rw [decide_eq_false_iff_not]
 show ¬ 0 < Inc (ptAt pts v.1).1 (ptAt pts v.1).2 (ptAt pts v.2.1).1 (ptAt pts v.2.1).2 (ptAt pts v.2.2).1 (ptAt pts v.2.2).2 p.1 p.2
 unfold shB at hs
 generalize (shV pts v).1 = X at hs
 generalize (shV pts v).2 = Y at hs
 simp only [Bool.and_eq_true, Bool.or_eq_true, decide_eq_true_eq] at hs
 obtain ⟨⟨x0, x1, y0, y1⟩, hs⟩ := hs
 have key : 8 - 4 * ((p.1 - X - 1) * (p.1 - X - 1)) - 4 * ((p.2 - Y - 1) * (p.2 - Y - 1)) ≤ 0 := by
  have a0 := sq0 (p.1 - X - 1)
  have b0 := sq0 (p.2 - Y - 1)
  by_cases hx : p.1 - X - 1 ≤ -2 ∨ 2 ≤ p.1 - X - 1
  ·have := sq4 hx
   omega
  ·by_cases hy : p.2 - Y - 1 ≤ -2 ∨ 2 ≤ p.2 - Y - 1
   ·have := sq4 hy
    omega
   ·exfalso
    apply hp
    unfold inBox
    omega
 rcases hs with ⟨q1, q2, q3⟩ | ⟨q1, q2, q3⟩ | ⟨q1, q2, q3⟩ | ⟨q1, q2, q3⟩ <;> rw [q1, q2, q3] <;> dsimp only
 ·rw [Inc_1]; omega
 ·rw [Inc_2]; omega
 ·rw [Inc_3]; omega
 ·rw [Inc_4]; omega
end Go.Proofs.Ytbanlhlggkdanaa
namespace Go.Proofs.Ytbanlhlggkdanaa
open Go.RowKit
theorem gPts_bx {W H : Nat} (hW : W = 1 ∨ W = 2) (hH : H = 1 ∨ H = 2) : ∀ q, q ∈ gPts W H → inBox W H q := by
 unfold inBox
 rcases hW with rfl | rfl <;> rcases hH with rfl | rfl <;> decide
theorem cfB_trV (pts : List (Int × Int)) (t : Tr) (p : Int × Int) : cfB pts t p = cfV pts (t.v0, t.v1, t.v2) p := rfl
theorem ptAt_mem {pts : List (Int × Int)} {i : Int} (h0 : 0 ≤ i) (h1 : i < pts.length) : ptAt pts i ∈ pts := by
 unfold ptAt
 rw [List.getD_eq_getElem?_getD, List.getElem?_eq_getElem (by omega)]
 exact List.getElem_mem _
theorem gh_A2 {W H : Nat} {v : T3} {p : Int × Int} (hs : sdV (gPts W H) W H v < 4) :
  decide (0 < A2 (ptAt (gPts W H) v.1).1 (ptAt (gPts W H) v.1).2 (ptAt (gPts W H) v.2.1).1 (ptAt (gPts W H) v.2.1).2 p.1 p.2) = bySd (decide (p.1 < 0)) (decide (2 * (W : Int) < p.1)) (decide (p.2 < 0)) (decide (2 * (H : Int) < p.2)) (sdV (gPts W H) W H v) := by
 unfold sdV at hs ⊢
 dsimp only at hs ⊢
 generalize (ptAt (gPts W H) v.1) = b at *
 generalize (ptAt (gPts W H) v.2.1) = a at *
 obtain ⟨b1, b2⟩ := b
 obtain ⟨a1, a2⟩ := a
 dsimp only at *
 have e1 : ∀ z w : Int, (z + 2 - z) * w = 2 * w := fun z w => by grind
 have e2 : ∀ z w : Int, (z - 2 - z) * w = - (2 * w) := fun z w => by grind
 split
 ·rename_i q
  obtain ⟨rfl, rfl, rfl⟩ := q
  rw [A2_v, e1]
  show _ = decide (p.1 < 0)
  rw [decide_eq_decide]
  omega
 ·split
  ·rename_i q
   obtain ⟨rfl, rfl, rfl⟩ := q
   rw [A2_v, e2]
   show _ = decide (2 * (W : Int) < p.1)
   rw [decide_eq_decide]
   omega
  ·split
   ·rename_i q
    obtain ⟨rfl, rfl, rfl⟩ := q
    rw [A2_h, e2]
    show _ = decide (p.2 < 0)
    rw [decide_eq_decide]
    omega
   ·split
    ·rename_i q
     obtain ⟨rfl, rfl, rfl⟩ := q
     rw [A2_h, e1]
     show _ = decide (2 * (H : Int) < p.2)
     rw [decide_eq_decide]
     omega
    ·rename_i h0 h1 h3 h4
     rw [if_neg h0, if_neg h1, if_neg h3, if_neg h4] at hs
     omega
theorem cfV_gh {W H : Nat} (hW : W = 1 ∨ W = 2) (hH : H = 1 ∨ H = 2) {v : T3} {p : Int × Int} (h2 : v.2.2 = -1) (hb : 0 ≤ v.1 ∧ v.1 < (gPts W H).length) (ha : 0 ≤ v.2.1 ∧ v.2.1 < (gPts W H).length) (hs : sdV (gPts W H) W H v < 4) (hp : ¬ inBox W H p) :
  cfV (gPts W H) v p = bySd (decide (p.1 < 0)) (decide (2 * (W : Int) < p.1)) (decide (p.2 < 0)) (decide (2 * (H : Int) < p.2)) (sdV (gPts W H) W H v) := by
 have bb := gPts_bx hW hH _ (ptAt_mem hb.1 hb.2)
 have ba := gPts_bx hW hH _ (ptAt_mem ha.1 ha.2)
 unfold cfV
 rw [cfB_at (t := trV v) (k := 2) (by decide) (show (trV v).v 2 = -1 from h2) (fun j hj => match j, hj with
  | 0, _ => by show v.1 ≠ -1; omega
  | 1, _ => by show v.2.1 ≠ -1; omega)]
 show (decide (0 < A2 (ptAt (gPts W H) v.1).1 (ptAt (gPts W H) v.1).2 (ptAt (gPts W H) v.2.1).1 (ptAt (gPts W H) v.2.1).2 p.1 p.2) || decide (Btw p.1 p.2 (ptAt (gPts W H) v.1).1 (ptAt (gPts W H) v.1).2 (ptAt (gPts W H) v.2.1).1 (ptAt (gPts W H) v.2.1).2)) = _
 have hbt : ¬ Btw p.1 p.2 (ptAt (gPts W H) v.1).1 (ptAt (gPts W H) v.1).2 (ptAt (gPts W H) v.2.1).1 (ptAt (gPts W H) v.2.1).2 := by
  rintro ⟨_, _, _, g1, g2, g3, g4⟩
  apply hp
  unfold inBox at *
  omega
 rw [decide_eq_false hbt, Bool.or_false, gh_A2 hs]
theorem fold_look {pts : List (Int × Int)} {tris : List Tr} {p : Int × Int} : ∀ (l : List (Nat × Tr)) (o : Int), (∀ x, x ∈ l → ∀ k, k < 3 → ¬ isReal tris (x.2.n k) → 0 ≤ x.2.n k) →
  let r := l.foldl (lookTri pts tris p) o
  (r = o ∧ (o < 0 → ∀ x, x ∈ l → ∀ k, k < 3 → ¬ (¬ isReal tris (x.2.n k) ∧ bey pts x.2 k p))) ∨ ∃ x, x ∈ l ∧ ∃ k, k < 3 ∧ ¬ isReal tris (x.2.n k) ∧ bey pts x.2 k p ∧ r = x.2.n k
 | [], o, _ => .inl ⟨rfl, fun _ _ h => nomatch h⟩
 | x :: l, o, hn => by
  dsimp only
  rw [List.foldl_cons]
  have ih := fold_look (pts := pts) (p := p) l (lookTri pts tris p o x) (fun y hy => hn y (.tail _ hy))
  dsimp only at ih
  have one : ∀ (o : Int) (k : Nat), k < 3 → (lookStep pts tris p x.2 o k = o ∧ (o < 0 → ¬ (¬ isReal tris (x.2.n k) ∧ bey pts x.2 k p))) ∨ (¬ isReal tris (x.2.n k) ∧ bey pts x.2 k p ∧ lookStep pts tris p x.2 o k = x.2.n k ∧ 0 ≤ x.2.n k) := by
   intro o k hk
   unfold lookStep
   split
   ·rename_i q
    exact .inr ⟨q.1, q.2.1, rfl, hn x (.head _) k hk q.1⟩
   ·rename_i q
    exact .inl ⟨rfl, fun ho h => q ⟨h.1, h.2, .inl ho⟩⟩
  have hx : (lookTri pts tris p o x = o ∧ (o < 0 → ∀ k, k < 3 → ¬ (¬ isReal tris (x.2.n k) ∧ bey pts x.2 k p))) ∨ ∃ k, k < 3 ∧ ¬ isReal tris (x.2.n k) ∧ bey pts x.2 k p ∧ lookTri pts tris p o x = x.2.n k ∧ 0 ≤ x.2.n k := by
   show (lookStep pts tris p x.2 (lookStep pts tris p x.2 (lookStep pts tris p x.2 o 0) 1) 2 = o ∧ _) ∨ ∃ k, k < 3 ∧ ¬ isReal tris (x.2.n k) ∧ bey pts x.2 k p ∧ lookStep pts tris p x.2 (lookStep pts tris p x.2 (lookStep pts tris p x.2 o 0) 1) 2 = x.2.n k ∧ 0 ≤ x.2.n k
   rcases one (lookStep pts tris p x.2 (lookStep pts tris p x.2 o 0) 1) 2 (by decide) with ⟨a1, a2⟩ | ⟨a1, a2, a3, a4⟩
   ·rw [a1]
    rcases one (lookStep pts tris p x.2 o 0) 1 (by decide) with ⟨b1, b2⟩ | ⟨b1, b2, b3, b4⟩
    ·rw [b1]
     rw [b1] at a2
     rcases one o 0 (by decide) with ⟨c1, c2⟩ | ⟨c1, c2, c3, c4⟩
     ·rw [c1]
      rw [c1] at a2 b2
      exact .inl ⟨rfl, fun ho k hk => match k, hk with
       | 0, _ => c2 ho
       | 1, _ => b2 ho
       | 2, _ => a2 ho⟩
     ·exact .inr ⟨0, by decide, c1, c2, c3, c4⟩
    ·exact .inr ⟨1, by decide, b1, b2, b3, b4⟩
   ·exact .inr ⟨2, by decide, a1, a2, a3, a4⟩
  rcases ih with ⟨i1, i2⟩ | ⟨y, hy, k, hk, j1, j2, j3⟩
  ·rcases hx with ⟨x1, x2⟩ | ⟨k, hk, j1, j2, j3, j4⟩
   ·rw [x1] at i1 i2 ⊢
    refine .inl ⟨i1, fun ho y hy => ?_⟩
    rcases List.mem_cons.1 hy with rfl | hy
    ·exact x2 ho
    ·exact i2 ho y hy
   ·exact .inr ⟨x, .head _, k, hk, j1, j2, i1.trans j3⟩
  ·exact .inr ⟨y, .tail _ hy, k, hk, j1, j2, j3⟩
section
variable {F : MapI} {W H : Nat} {f : Nat → Bool} {M : MD} {V : List (Nat × T3)}
theorem GM.mem_all (h : GM F W H f M V) {v : T3} : v ∈ gAll W H f ↔ ∃ n, (n, v) ∈ V := by
 rw [← h.pm.mem_iff, List.mem_map]
 constructor
 ·rintro ⟨x, hx, rfl⟩
  exact ⟨x.1, hx⟩
 ·rintro ⟨n, hn⟩
  exact ⟨_, hn, rfl⟩
theorem GM.mem_tris (h : GM F W H f M V) (hW : W = 1 ∨ W = 2) (hH : H = 1 ∨ H = 2) {v : T3} : v ∈ gTris W H f ↔ rv v ∧ ∃ n, (n, v) ∈ V := by
 have hb := vtB_true (f := f) hW hH
 unfold vtB at hb
 simp only [Bool.and_eq_true, decide_eq_true_eq] at hb
 rw [← hb.2.2.2, List.mem_filter, h.mem_all, decide_eq_true_eq]
 exact ⟨fun q => ⟨q.2, q.1⟩, fun q => ⟨q.2, q.1⟩⟩
theorem GM.vk (h : GM F W H f M V) {x : Nat × T3} (hx : x ∈ V) {k : Nat} (hk : k < 3) : tv x.2 k = -1 ∨ (0 ≤ tv x.2 k ∧ tv x.2 k < (gPts W H).length) := h.tg.ok _ (List.mem_map.2 ⟨x, hx, rfl⟩) k hk
theorem GM.ms (h : GM F W H f M V) : MsOk M.pts M.tris := by
 refine ⟨fun n t ht h0 => ?_, fun n t ht h0 i hi => ?_⟩
 ·have hx := h.lm.of ht h0
  have hd := h.tg.ds _ (List.mem_map.2 ⟨_, hx, rfl⟩)
  have hok : ∀ k, k < 3 → t.v k = -1 ∨ (0 ≤ t.v k ∧ t.v k < M.pts.length) := fun k hk => by
   rw [h.pts]
   exact h.vk hx hk
  refine ⟨fun k hk hg => ?_, fun hno k hk => (hok k hk).resolve_left (hno k hk)⟩
  have i1 := Nat.mod_lt (k + 1) (by decide : 0 < 3)
  have i2 := Nat.mod_lt (k + 2) (by decide : 0 < 3)
  have n1 : t.v ((k + 1) % 3) ≠ -1 := fun q => by
   have := tv_inj hd i1 hk (q.trans hg.symm)
   omega
  have n2 : t.v ((k + 2) % 3) ≠ -1 := fun q => by
   have := tv_inj hd i2 hk (q.trans hg.symm)
   omega
  exact ⟨(hok _ i1).resolve_left n1, (hok _ i2).resolve_left n2⟩
 ·have hx := h.lm.of ht h0
  obtain ⟨y, hy, j, hj, he, hn, _, o, ho, hov, _, _⟩ := h.lm.across h.tg hx ht hi
  refine ⟨y.1, hn, o, ho, ?_⟩
  have := h.tg.ne2 hy (by decide : 0 < 3)
  rw [← hov] at this
  exact this
theorem GM.lv (h : GM F W H f M V) {x : Nat × T3} (hx : x ∈ V) : lvT M.tris x.1 := by
 obtain ⟨t, ht, hv⟩ := h.lm.get hx
 refine ⟨t, ht, ?_⟩
 have := h.tg.ne2 hx (by decide : 0 < 3)
 rw [← hv] at this
 exact this
theorem GM.cf (h : GM F W H f M V) {x : Nat × T3} (hx : x ∈ V) (p : Int × Int) : cfN M.pts M.tris p x.1 = cfV (gPts W H) x.2 p := by
 obtain ⟨t, ht, hv⟩ := h.lm.get hx
 rw [cfN_at ht, cfB_trV, hv, h.pts]
end
section
variable {F : MapI} {W H : Nat} {f : Nat → Bool} {M : MD} {V : List (Nat × T3)} {p : Int × Int}
structure PlIn (W H : Nat) (f : Nat → Bool) (M : MD) (V : List (Nat × T3)) (p : Int × Int) (n0 n1 : Nat) (v0 : T3) (k : Nat) : Prop where
 y0 : (n0, v0) ∈ V
 hk : k < 3
 rl : rv v0
 ck : inK W H f p v0 k = true
 y1 : ∃ y, y ∈ V ∧ y.1 = n1 ∧ ∃ j, j < 3 ∧ kv y.2 j = rev2 (kv v0 k)
 pl : look M.pts M.tris p = (1, (n0 : Int), min (kv v0 k).1 (kv v0 k).2, max (kv v0 k).1 (kv v0 k).2)
structure PlOut (W H : Nat) (f : Nat → Bool) (M : MD) (V : List (Nat × T3)) (p : Int × Int) (n0 : Nat) (v0 : T3) : Prop where
 y0 : (n0, v0) ∈ V
 gh : ¬ rv v0
 ck : outC W H f (decide (p.1 < 0)) (decide (2 * (W : Int) < p.1)) (decide (p.2 < 0)) (decide (2 * (H : Int) < p.2)) = true
 by_ : bySd (decide (p.1 < 0)) (decide (2 * (W : Int) < p.1)) (decide (p.2 < 0)) (decide (2 * (H : Int) < p.2)) (sdV (gPts W H) W H v0) = true
 pl : look M.pts M.tris p = (3, (n0 : Int), 0, 0)
theorem GM.find_in (h : GM F W H f M V) (hW : W = 1 ∨ W = 2) (hH : H = 1 ∨ H = 2) (hp : inBox W H p) : ∃ (n : Nat) (t : Tr), M.tris[n]? = some t ∧ hld M.pts t p ∧ rv (t.v0, t.v1, t.v2) ∧ (n, (t.v0, t.v1, t.v2)) ∈ V ∧ look M.pts M.tris p = place M.pts t (n : Int) p := by
 have hb := inB_true (f := f) hW hH
 unfold inB at hb
 simp only [List.all_eq_true, List.mem_range] at hb
 obtain ⟨⟨x0, x1⟩, y0, y1⟩ := hp
 have hb := hb p.1.toNat (by omega) p.2.toNat (by omega)
 rw [show (((p.1.toNat : Nat) : Int), ((p.2.toNat : Nat) : Int)) = p from Prod.ext (by dsimp only; omega) (by dsimp only; omega)] at hb
 unfold inP at hb
 dsimp only at hb
 rw [Bool.and_eq_true, List.any_eq_true] at hb
 obtain ⟨⟨v, hv, hh⟩, _⟩ := hb
 obtain ⟨hr, n, hn⟩ := (h.mem_tris hW hH).1 hv
 obtain ⟨t, ht, htv⟩ := h.lm.get hn
 dsimp only at ht htv
 have hld1 : hld M.pts t p := by
  have := of_decide_eq_true hh
  rw [← htv, ← h.pts] at this
  exact this
 cases hf : (reals M.tris).find? (fun x => decide (hld M.pts x.2 p)) with
 | none =>
  have := List.find?_eq_none.1 hf (n, t) (h.lm.mem_real.2 ⟨ht, by rw [htv]; exact hn, by rw [htv]; exact hr⟩)
  exact absurd hld1 (by simpa using this)
 | some x =>
  obtain ⟨m, u⟩ := x
  have h1 := List.find?_some hf
  obtain ⟨g1, g2, g3⟩ := h.lm.mem_real.1 (List.mem_of_find?_eq_some hf)
  exact ⟨m, u, g1, by simpa using h1, g3, g2, by unfold look; rw [hf]⟩
end
theorem A2_swp {a1 a2 b1 b2 c1 c2 : Int} : A2 b1 b2 a1 a2 c1 c2 = - A2 a1 a2 b1 b2 c1 c2 := by unfold A2 det; grind
theorem pick8 {W H : Nat} {p : Int × Int} (g : Bool → Bool → Bool → Bool → Bool) (b1 : g true false false false = true) (b2 : g false true false false = true) (b3 : g false false true false = true) (b4 : g false false false true = true) (b5 : g true false true false = true) (b6 : g true false false true = true) (b7 : g false true true false = true) (b8 : g false true false true = true) (hp : ¬ inBox W H p) : g (decide (p.1 < 0)) (decide (2 * (W : Int) < p.1)) (decide (p.2 < 0)) (decide (2 * (H : Int) < p.2)) = true := by
 unfold inBox at hp
 by_cases a1 : p.1 < 0 <;> by_cases a2 : 2 * (W : Int) < p.1 <;> by_cases a3 : p.2 < 0 <;> by_cases a4 : 2 * (H : Int) < p.2 <;> simp only [a1, a2, a3, a4, decide_true, decide_false] <;> first | assumption | (exfalso; omega)
section
variable {F : MapI} {W H : Nat} {f : Nat → Bool} {M : MD} {V : List (Nat × T3)} {p : Int × Int}
set_option maxHeartbeats 4000000 in
theorem GM.pl_in (h : GM F W H f M V) (hW : W = 1 ∨ W = 2) (hH : H = 1 ∨ H = 2) (hp : inBox W H p) (hne : (look M.pts M.tris p).1 ≠ 2) : ∃ n0 n1 v0 k, PlIn W H f M V p n0 n1 v0 k := by
 obtain ⟨n, t, ht, hh, hr, hV, hl⟩ := h.find_in hW hH hp
 have hvT := (h.mem_tris hW hH).2 ⟨hr, n, hV⟩
 rw [hl] at hne
 have p0 : ¬ ptAt M.pts t.v0 = p := fun q => hne (by unfold place; rw [if_pos q])
 have p1 : ¬ ptAt M.pts t.v1 = p := fun q => hne (by unfold place; rw [if_neg p0, if_pos q])
 have p2 : ¬ ptAt M.pts t.v2 = p := fun q => hne (by unfold place; rw [if_neg p0, if_neg p1, if_pos q])
 have hhV : hdV (gPts W H) (t.v0, t.v1, t.v2) p = true := by
  unfold hdV
  rw [decide_eq_true_eq, ← h.pts]
  exact hh
 have hvt := vtB_true (f := f) hW hH
 unfold vtB at hvt
 simp only [Bool.and_eq_true, List.all_eq_true] at hvt
 have hnP : ¬ p ∈ gPts W H := by
  intro hm
  have := hvt.1 p hm _ hvT
  rw [hhV] at this
  simp only [Bool.not_true, Bool.false_or, Bool.or_eq_true, decide_eq_true_eq] at this
  rw [← h.pts] at this
  rcases this with q | q | q
  ·exact p0 q
  ·exact p1 q
  ·exact p2 q
 have hb := inB_true (f := f) hW hH
 unfold inB at hb
 simp only [List.all_eq_true, List.mem_range] at hb
 obtain ⟨⟨x0, x1⟩, y0, y1⟩ := hp
 have hb := hb p.1.toNat (by omega) p.2.toNat (by omega)
 rw [show (((p.1.toNat : Nat) : Int), ((p.2.toNat : Nat) : Int)) = p from Prod.ext (by dsimp only; omega) (by dsimp only; omega)] at hb
 unfold inP at hb
 dsimp only at hb
 rw [Bool.and_eq_true, decide_eq_false hnP, Bool.false_or, List.all_eq_true] at hb
 have hb := hb.2 _ hvT
 rw [hhV] at hb
 simp only [Bool.not_true, Bool.false_or, Bool.and_eq_true] at hb
 obtain ⟨_, _, _, hb⟩ := hb
 have fin : ∀ k, k < 3 → inK W H f p (t.v0, t.v1, t.v2) k = true → place M.pts t (n : Int) p = (1, (n : Int), min (kv (t.v0, t.v1, t.v2) k).1 (kv (t.v0, t.v1, t.v2) k).2, max (kv (t.v0, t.v1, t.v2) k).1 (kv (t.v0, t.v1, t.v2) k).2) → ∃ n0 n1 v0 k, PlIn W H f M V p n0 n1 v0 k := by
  intro k hk hK hpl
  obtain ⟨y, hy, j, hj, he, _⟩ := h.lm.across h.tg hV ht hk
  exact ⟨n, y.1, _, k, hV, hk, hr, hK, ⟨y, hy, rfl, j, hj, he⟩, hl.trans hpl⟩
 have eg : ∀ k, egV (gPts W H) (t.v0, t.v1, t.v2) k p = decide (Go.Proofs.Ytbanlhlggkdanaa.edge M.pts t k p) := fun k => by rw [h.pts]; rfl
 rw [eg 0, eg 1, eg 2] at hb
 by_cases e0 : Go.Proofs.Ytbanlhlggkdanaa.edge M.pts t 0 p
 ·rw [decide_eq_true e0, if_pos rfl] at hb
  exact fin 0 (by decide) hb (by unfold place; rw [if_neg p0, if_neg p1, if_neg p2, if_pos e0]; rfl)
 ·rw [decide_eq_false e0] at hb
  by_cases e1 : Go.Proofs.Ytbanlhlggkdanaa.edge M.pts t 1 p
  ·rw [decide_eq_true e1] at hb
   exact fin 1 (by decide) hb (by unfold place; rw [if_neg p0, if_neg p1, if_neg p2, if_neg e0, if_pos e1]; rfl)
  ·rw [decide_eq_false e1] at hb
   by_cases e2 : Go.Proofs.Ytbanlhlggkdanaa.edge M.pts t 2 p
   ·rw [decide_eq_true e2] at hb
    exact fin 2 (by decide) hb (by unfold place; rw [if_neg p0, if_neg p1, if_neg p2, if_neg e0, if_neg e1, if_pos e2]; rfl)
   ·rw [decide_eq_false e2] at hb
    simp at hb
theorem gAll_gh {v : T3} (hv : v ∈ gAll W H f) (hg : ¬ v ∈ gTris W H f) : (v.2.1, v.1) ∈ openE (gTris W H f) ∧ v.2.2 = -1 := by
 unfold gAll at hv
 rcases List.mem_append.1 hv with hv | hv
 ·exact absurd hv hg
 ·obtain ⟨e, he, rfl⟩ := List.mem_map.1 hv
  exact ⟨he, rfl⟩
theorem outB_gh (hW : W = 1 ∨ W = 2) (hH : H = 1 ∨ H = 2) {v : T3} (hv : v ∈ gAll W H f) (hg : ¬ rv v) : v.2.2 = -1 ∧ sdV (gPts W H) W H v < 4 := by
 have hb := outB_true (f := f) hW hH
 unfold outB at hb
 rw [Bool.and_eq_true, List.all_eq_true] at hb
 have := hb.1 v hv
 simp only [rvB, Bool.or_eq_true, Bool.and_eq_true, decide_eq_true_eq] at this
 exact this.resolve_left hg
theorem outC_true (hW : W = 1 ∨ W = 2) (hH : H = 1 ∨ H = 2) (hp : ¬ inBox W H p) : outC W H f (decide (p.1 < 0)) (decide (2 * (W : Int) < p.1)) (decide (p.2 < 0)) (decide (2 * (H : Int) < p.2)) = true := by
 have hb := outB_true (f := f) hW hH
 unfold outB at hb
 simp only [Bool.and_eq_true] at hb
 obtain ⟨_, b1, b2, b3, b4, b5, b6, b7, b8⟩ := hb
 exact pick8 (outC W H f) b1 b2 b3 b4 b5 b6 b7 b8 hp
set_option maxHeartbeats 4000000 in
theorem GM.pl_out (h : GM F W H f M V) (hW : W = 1 ∨ W = 2) (hH : H = 1 ∨ H = 2) (hp : ¬ inBox W H p) : ∃ n0 v0, PlOut W H f M V p n0 v0 := by
 have hvt := vtB_true (f := f) hW hH
 unfold vtB at hvt
 simp only [Bool.and_eq_true, List.all_eq_true] at hvt
 have hno : ∀ y, y ∈ reals M.tris → ¬ hld M.pts y.2 p := by
  rintro ⟨n, t⟩ hy hh
  obtain ⟨g1, g2, g3⟩ := h.lm.mem_real.1 hy
  refine hp (hdV_box (hvt.2.1 _ ((h.mem_tris hW hH).2 ⟨g3, n, g2⟩)) ?_)
  unfold hdV
  rw [decide_eq_true_eq, ← h.pts]
  exact hh
 have hoc := outC_true (f := f) hW hH hp
 have hck := hoc
 unfold outC at hoc
 simp only [Bool.and_eq_true, decide_eq_true_eq] at hoc
 obtain ⟨_, _, hpos⟩ := hoc
 obtain ⟨g, hg⟩ := List.exists_mem_of_length_pos hpos
 rw [List.mem_filter] at hg
 simp only [rvB, Bool.and_eq_true, Bool.not_eq_true', decide_eq_false_iff_not] at hg
 obtain ⟨hgA, hgr, hgb⟩ := hg
 obtain ⟨hg2, hgs⟩ := outB_gh hW hH hgA hgr
 have hgT : ¬ g ∈ gTris W H f := fun q => hgr ((h.mem_tris hW hH).1 q).1
 obtain ⟨y, hy, j, hj, y', hy', j', hj', t, t', ht, ht', hk1, hk2, hr1, hr2⟩ := h.bord hW hH (gAll_gh hgA hgT).1
 have hbey : ∀ {v : T3} {t : Tr} {k : Nat}, kv (t.v0, t.v1, t.v2) k = (v.2.1, v.1) → (bey M.pts t k p ↔ 0 < A2 (ptAt (gPts W H) v.1).1 (ptAt (gPts W H) v.1).2 (ptAt (gPts W H) v.2.1).1 (ptAt (gPts W H) v.2.1).2 p.1 p.2) := by
  intro v t k he
  rw [t_kv] at he
  have e1 : t.v ((k + 1) % 3) = v.2.1 := congrArg Prod.fst he
  have e2 : t.v ((k + 2) % 3) = v.1 := congrArg Prod.snd he
  unfold bey
  rw [e1, e2, h.pts, A2_swp]
  omega
 have hnn : ∀ x, x ∈ reals M.tris → ∀ k, k < 3 → ¬ isReal M.tris (x.2.n k) → 0 ≤ x.2.n k := by
  rintro ⟨n, t⟩ hx k hk _
  obtain ⟨g1, g2, _⟩ := h.lm.mem_real.1 hx
  obtain ⟨z, _, _, _, _, hn, _⟩ := h.lm.across h.tg g2 g1 hk
  rw [hn]
  exact Int.natCast_nonneg _
 rcases fold_look (pts := M.pts) (p := p) (reals M.tris) (-1) hnn with ⟨_, r2⟩ | ⟨⟨n, u⟩, hx, k, hk, q1, q2, q3⟩
 ·exfalso
  obtain ⟨tt, htt, hv⟩ := h.lm.get hy
  rw [ht] at htt
  cases htt
  have hm : (y.1, t) ∈ reals M.tris := h.lm.mem_real.2 ⟨ht, by rw [hv]; exact hy, by rw [hv]; exact (h.lm.real_at hy).1 hr1⟩
  obtain ⟨z, hz, jz, hjz, hez, hn, _⟩ := h.lm.across h.tg hy ht hj
  have hzy := (h.lm.un z hz jz hjz y' hy' j' hj' (by rw [hez, hk1, hk2])).1
  refine r2 (by decide) _ hm j hj ⟨?_, ?_⟩
  ·show ¬ isReal M.tris (t.n j)
   rw [hn, hzy]
   exact hr2
  ·refine (hbey (v := g) (t := t) (k := j) (by rw [hv]; exact hk1)).2 ?_
   have := gh_A2 (p := p) hgs
   rw [hgb] at this
   exact of_decide_eq_true this
 ·obtain ⟨g1, g2, g3⟩ := h.lm.mem_real.1 hx
  obtain ⟨z, hz, jz, hjz, hez, hn, _⟩ := h.lm.across h.tg g2 g1 hk
  dsimp only at hez q1 q2 q3
  have hzr : ¬ rv z.2 := fun q => q1 (by rw [hn]; exact (h.lm.real_at hz).2 q)
  have hzA := h.mem_all.2 ⟨z.1, hz⟩
  obtain ⟨hz2, hzs⟩ := outB_gh hW hH hzA hzr
  have hkk : ∀ i, i < 3 → 0 ≤ u.v i := fun i hi => match i, hi with
   | 0, _ => g3.1
   | 1, _ => g3.2.1
   | 2, _ => g3.2.2
  have hj2 : jz = 2 := by
   have a1 := hkk ((k + 1) % 3) (Nat.mod_lt _ (by decide))
   have a2 := hkk ((k + 2) % 3) (Nat.mod_lt _ (by decide))
   rw [t_kv] at hez
   have b1 : (kv z.2 jz).1 = u.v ((k + 2) % 3) := congrArg Prod.fst hez
   have b2 : (kv z.2 jz).2 = u.v ((k + 1) % 3) := congrArg Prod.snd hez
   match jz, hjz with
   | 0, _ => have : z.2.2.2 = u.v ((k + 1) % 3) := b2; omega
   | 1, _ => have : z.2.2.2 = u.v ((k + 2) % 3) := b1; omega
   | 2, _ => rfl
  subst hj2
  refine ⟨z.1, z.2, hz, hzr, hck, ?_, ?_⟩
  ·rw [← gh_A2 hzs, decide_eq_true_eq]
   refine (hbey (v := z.2) (t := u) (k := k) ?_).1 q2
   have : (z.2.1, z.2.2.1) = rev2 (kv (u.v0, u.v1, u.v2) k) := hez
   rw [Prod.mk.injEq] at this
   exact Prod.ext this.2.symm this.1.symm
  ·rw [look_none hno, q3, hn]
end
end Go.Proofs.Ytbanlhlggkdanaa
namespace Go.Proofs.Ytbanlhlggkdanaa
open Go.RowKit
theorem mget_noneS {k : Int} : ∀ {l : MS}, ¬ k ∈ l.map (·.1) → mget k l = none
 | [], _ => rfl
 | e :: l, h => by
  rw [mget_cons, if_neg (fun q => h (by rw [q]; exact .head _))]
  exact mget_noneS (fun q => h (.tail _ q))
theorem mput_newS {k : Int} {v : Sd} {l : MS} {c : Nat} (h : ¬ k ∈ l.map (·.1)) : mput k v l c = l ++ [(k, v, c)] := by
 have := mget_noneS h
 unfold mget at this
 unfold mput
 cases hf : mfind k l 0 with
 | none => rfl
 | some p => rw [hf] at this; cases this
theorem dFold_new (cf : Nat → Bool) : ∀ (E : List Sd) (s : MS × Nat × Int × Bool), (∀ e, e ∈ E → ¬ e.1 ∈ s.1.map (·.1)) → (E.map (·.1)).Nodup →
  (E.foldl (dStep cf) s).1.map (fun e => (e.1, e.2.1)) = s.1.map (fun e => (e.1, e.2.1)) ++ E.map (fun e => (e.1, e)) ∧ (E.foldl (dStep cf) s).2.2.1 = (E.map (·.1)).foldl min s.2.2.1
 | [], s, _, _ => ⟨by simp, rfl⟩
 | e :: E, s, h, hn => by
  rw [List.map_cons, List.nodup_cons] at hn
  have hp : (dStep cf s e).1 = s.1 ++ [(e.1, e, s.2.1)] := mput_newS (h e (.head _))
  obtain ⟨h1, h2⟩ := dFold_new cf E (dStep cf s e) (fun e' he' q => by
   rw [hp, List.map_append] at q
   rcases List.mem_append.1 q with q | q
   ·exact h e' (.tail _ he') q
   ·simp at q
    exact hn.1 (List.mem_map.2 ⟨e', he', q⟩)) hn.2
  rw [List.foldl_cons]
  refine ⟨?_, h2⟩
  rw [h1, hp, List.map_append, List.append_assoc]
  rfl
theorem dFold_cut (cf : Nat → Bool) : ∀ (E : List Sd) (s : MS × Nat × Int × Bool), (E.foldl (dStep cf) s).2.2.2 = (s.2.2.2 || E.any fun e => e.2.2.2.2 && cf e.2.2.1.toNat)
 | [], s => by simp
 | e :: E, s => by
  rw [List.foldl_cons, dFold_cut cf E, List.any_cons]
  show ((s.2.2.2 || (e.2.2.2.2 && cf e.2.2.1.toNat)) || _) = _
  rw [Bool.or_assoc]
theorem mget_find : ∀ (L : MS) (a : Int), mget a L = ((L.map fun e => (e.1, e.2.1)).find? (fun e => decide (e.1 = a))).map (·.2)
 | [], _ => rfl
 | e :: L, a => by
  have ih := mget_find L a
  rw [mget_cons, List.map_cons, List.find?_cons]
  by_cases h : e.1 = a
  ·rw [if_pos h.symm, decide_eq_true h]; rfl
  ·rw [if_neg (fun q => h q.symm), decide_eq_false h]; exact ih
theorem getS_find {L : MS} {S : List Sd} (hL : L.map (fun e => (e.1, e.2.1)) = S.map (fun e => (e.1, e))) (a : Int) : getS L a = (S.find? (fun e => decide (e.1 = a))).getD sd0 := by
 unfold getS
 rw [mget_find, hL, List.find?_map, Option.map_map]
 have e : ((fun e : Int × Sd => decide (e.1 = a)) ∘ fun e : Sd => (e.1, e)) = fun e : Sd => decide (e.1 = a) := rfl
 rw [e]
 cases S.find? (fun e : Sd => decide (e.1 = a)) <;> rfl
def e2 (s : Sd) : Int × Int := (s.1, s.2.1)
theorem getS_nx {L : MS} {S : List Sd} (hL : L.map (fun e => (e.1, e.2.1)) = S.map (fun e => (e.1, e))) (a : Int) : (getS L a).2.1 = nxE (S.map e2) a := by
 rw [getS_find hL]
 unfold nxE
 rw [List.find?_map]
 have : ((fun e : Int × Int => decide (e.1 = a)) ∘ e2) = fun e : Sd => decide (e.1 = a) := rfl
 rw [this]
 cases S.find? (fun e => decide (e.1 = a)) <;> rfl
theorem itS_it {L : MS} {S : List Sd} (hL : L.map (fun e => (e.1, e.2.1)) = S.map (fun e => (e.1, e))) (a : Int) : ∀ k, itS L k a = itE (S.map e2) k a
 | 0 => rfl
 | k + 1 => by
  show (getS L (itS L k a)).2.1 = nxE _ (itE _ k a)
  rw [getS_nx hL, itS_it hL a k]
structure RimP (S rim : List Sd) : Prop where
 len : rim.length = S.length
 pos : 0 < rim.length
 prm : rim.Perm S
 nxt : ∀ i s s', rim[i]? = some s → rim[(i + 1) % rim.length]? = some s' → s.2.1 = s'.1
 low : ∀ s s0, s ∈ rim → rim[0]? = some s0 → s0.1 ≤ s.1
theorem rim_p {cf : Nat → Bool} {n0 : Nat} {S : List Sd} {E0 : List (Int × Int)} (hp : (S.map e2).Perm E0) (hn : (E0.map (·.1)).Nodup) (hw : ((List.range E0.length).map fun i => itE E0 i (minE E0 n0)).Nodup) (hc : itE E0 E0.length (minE E0 n0) = minE E0 n0)
  (hk : ∀ a, a ∈ ((List.range E0.length).map fun i => itE E0 i (minE E0 n0)) → ∃ e, e ∈ E0 ∧ e.1 = a) (h0 : 0 < E0.length) :
  RimP S (rimL (dFold cf n0 S).1 (dFold cf n0 S).2.2.1 (dFold cf n0 S).1.length) ∧ (dFold cf n0 S).2.2.2 = S.any fun e => e.2.2.2.2 && cf e.2.2.1.toNat := by
 have hnS : (S.map (·.1)).Nodup := by
  have := (hp.map (·.1)).nodup_iff.2 hn
  rw [List.map_map] at this
  exact this
 obtain ⟨d1, d2⟩ := dFold_new cf S ([], 0, (n0 : Int), false) (fun e _ q => nomatch q) hnS
 rw [List.map_nil, List.nil_append] at d1
 replace d1 : (dFold cf n0 S).1.map (fun e => (e.1, e.2.1)) = S.map (fun e => (e.1, e)) := d1
 have d3 := dFold_cut cf S ([], 0, (n0 : Int), false)
 rw [Bool.false_or] at d3
 refine ⟨?_, d3⟩
 have hLl : (dFold cf n0 S).1.length = S.length := by
  have := congrArg List.length d1
  rw [List.length_map, List.length_map] at this
  exact this
 have hSl : S.length = E0.length := by rw [← hp.length_eq, List.length_map]
 have hmin : (dFold cf n0 S).2.2.1 = minE E0 n0 := by
  rw [← minE_perm hp]
  unfold minE
  rw [List.map_map]
  exact d2
 have hit : ∀ k, itS (dFold cf n0 S).1 k (dFold cf n0 S).2.2.1 = itE E0 k (minE E0 n0) := by
  intro k
  rw [itS_it d1, hmin]
  have : ∀ k v, itE (S.map e2) k v = itE E0 k v := by
   intro k v
   induction k with
   | zero => rfl
   | succ k ih =>
    show nxE _ (itE _ k v) = nxE _ (itE _ k v)
    rw [ih, nxE_perm hp hn]
  exact this k _
 rw [hLl]
 have hat : ∀ i, i < S.length → ∃ s, s ∈ S ∧ getS (dFold cf n0 S).1 (itS (dFold cf n0 S).1 i (dFold cf n0 S).2.2.1) = s ∧ s.1 = itE E0 i (minE E0 n0) ∧ s.2.1 = itE E0 (i + 1) (minE E0 n0) := by
  intro i hi
  obtain ⟨e, he, hea⟩ := hk _ (List.mem_map.2 ⟨i, List.mem_range.2 (by omega), rfl⟩)
  obtain ⟨s, hs, hse⟩ := List.mem_map.1 (hp.mem_iff.2 he)
  have hs1 : s.1 = itE E0 i (minE E0 n0) := by rw [← hea, ← hse]; rfl
  have hf : (S.find? (fun e => decide (e.1 = itE E0 i (minE E0 n0)))) = some s := by
   cases hf : S.find? (fun e => decide (e.1 = itE E0 i (minE E0 n0))) with
   | none => exact absurd hs1 (by simpa using List.find?_eq_none.1 hf s hs)
   | some s' =>
    have q1 := List.mem_of_find?_eq_some hf
    have q2 : s'.1 = itE E0 i (minE E0 n0) := by simpa using List.find?_some hf
    obtain ⟨a, ha⟩ := List.mem_iff_getElem?.1 hs
    obtain ⟨b, hb⟩ := List.mem_iff_getElem?.1 q1
    have : a = b := at_nodup hnS (a := s.1) (by rw [List.getElem?_map, ha]; rfl) (by rw [List.getElem?_map, hb, hs1, ← q2]; rfl)
    subst this
    rw [ha] at hb
    exact hb.symm
  have hg : getS (dFold cf n0 S).1 (itS (dFold cf n0 S).1 i (dFold cf n0 S).2.2.1) = s := by
   rw [hit, getS_find d1, hf]
   rfl
  refine ⟨s, hs, hg, hs1, ?_⟩
  have := hit (i + 1)
  rw [← this]
  show _ = (getS _ (itS _ i _)).2.1
  rw [hg]
 have hget : ∀ i s, (rimL (dFold cf n0 S).1 (dFold cf n0 S).2.2.1 S.length)[i]? = some s → i < S.length ∧ s ∈ S ∧ s.1 = itE E0 i (minE E0 n0) ∧ s.2.1 = itE E0 (i + 1) (minE E0 n0) := by
  intro i s h
  have hi : i < S.length := by
   have := (List.getElem?_eq_some_iff.1 h).1
   rw [rimL_len] at this
   exact this
  unfold rimL at h
  rw [List.getElem?_map, List.getElem?_range hi] at h
  obtain ⟨s', a1, a2, a3, a4⟩ := hat i hi
  rw [Option.map_some, a2] at h
  obtain rfl := Option.some.inj h
  exact ⟨hi, a1, a3, a4⟩
 have hrn : ((rimL (dFold cf n0 S).1 (dFold cf n0 S).2.2.1 S.length).map (·.1)).Nodup := by
  have : (rimL (dFold cf n0 S).1 (dFold cf n0 S).2.2.1 S.length).map (·.1) = (List.range E0.length).map fun i => itE E0 i (minE E0 n0) := by
   unfold rimL
   rw [List.map_map, ← hSl]
   refine List.map_congr_left (fun i hi => ?_)
   obtain ⟨s', a1, a2, a3, a4⟩ := hat i (List.mem_range.1 hi)
   show (getS _ _).1 = _
   rw [a2, a3]
  rw [this]
  exact hw
 refine ⟨rimL_len .., by rw [rimL_len]; omega, ?_, ?_, ?_⟩
 ·have hn1 := nodup_of_map hrn
  have hn2 := nodup_of_map hnS
  have hsub : ∀ s, s ∈ rimL (dFold cf n0 S).1 (dFold cf n0 S).2.2.1 S.length → s ∈ S := fun s hs => by
   obtain ⟨i, hi⟩ := List.mem_iff_getElem?.1 hs
   exact (hget i s hi).2.1
  refine (List.perm_ext_iff_of_nodup hn1 hn2).2 fun s => ⟨hsub s, fun hs => Classical.byContradiction fun hno => ?_⟩
  have := (List.nodup_cons.2 ⟨hno, hn1⟩).length_le_of_subset (l₂ := S) (fun x hx => (List.mem_cons.1 hx).elim (fun q => q ▸ hs) (hsub x))
  rw [List.length_cons, rimL_len] at this
  omega
 ·intro i s s' h1 h2
  obtain ⟨b1, b2, b3, b4⟩ := hget i s h1
  rw [rimL_len] at h2
  obtain ⟨c1, c2, c3, c4⟩ := hget _ s' h2
  rw [b4, c3]
  by_cases hl : i + 1 < S.length
  ·rw [Nat.mod_eq_of_lt hl]
  ·rw [show i + 1 = S.length by omega, Nat.mod_self, hSl]
   exact hc
 ·intro s s0 hs h1
  obtain ⟨i, hi⟩ := List.mem_iff_getElem?.1 hs
  obtain ⟨_, b2, b3, _⟩ := hget i s hi
  obtain ⟨_, c2, c3, _⟩ := hget 0 s0 h1
  rw [c3]
  show minE E0 n0 ≤ s.1
  refine (foldl_min (E0.map (·.1)) n0).2.1 _ ?_
  have := hp.mem_iff.1 (List.mem_map.2 ⟨s, b2, rfl⟩)
  exact List.mem_map.2 ⟨_, this, rfl⟩
end Go.Proofs.Ytbanlhlggkdanaa
namespace Go.Proofs.Ytbanlhlggkdanaa
open Go.RowKit
theorem subs_filter (q : T3 → Bool) : ∀ l : List T3, l.filter q ∈ subs l
 | [] => by simp [subs]
 | x :: l => by
  have ih := subs_filter q l
  unfold subs
  rw [List.filter_cons]
  split
  ·exact List.mem_append_right _ (List.mem_map.2 ⟨_, ih, rfl⟩)
  ·exact List.mem_append_left _ ih
section
variable {F : MapI} {W H : Nat} {f : Nat → Bool} {M : MD} {V : List (Nat × T3)} {p : Int × Int}
theorem GM.vinj (h : GM F W H f M V) {n m : Nat} {v : T3} (h1 : (n, v) ∈ V) (h2 : (m, v) ∈ V) : n = m :=
 congrArg Prod.fst (h.lm.un _ h1 0 (by decide) _ h2 0 (by decide) rfl).1
theorem GM.of_lv (h : GM F W H f M V) {n : Nat} (hl : lvT M.tris n) : ∃ v, (n, v) ∈ V := by
 obtain ⟨t, ht, h0⟩ := hl
 exact ⟨_, h.lm.of ht h0⟩
theorem GM.nb_of (h : GM F W H f M V) {m : Nat} {w0 : T3} (hw0 : (m, w0) ∈ V) {t : Tr} (ht : M.tris[m]? = some t) {i u : Nat} (hi : i < 3) (hu : t.n i = (u : Int)) : ∃ w, (u, w) ∈ V := by
 obtain ⟨z, hz, _, _, _, hn, _⟩ := h.lm.across h.tg hw0 ht hi
 have : u = z.1 := by omega
 exact ⟨z.2, by rw [this]; exact hz⟩
theorem GM.all_nd (h : GM F W H f M V) : (gAll W H f).Nodup := (h.tg.perm h.pm).nodup
theorem acr_e {t : Tr} (hd : dist3 (t.v0, t.v1, t.v2)) {k : Nat} (hk : k < 3) : acr t (min (kv (t.v0, t.v1, t.v2) k).1 (kv (t.v0, t.v1, t.v2) k).2) (max (kv (t.v0, t.v1, t.v2) k).1 (kv (t.v0, t.v1, t.v2) k).2) = t.n k := by
 obtain ⟨d1, d2, d3⟩ := hd
 dsimp only at d1 d2 d3
 match k, hk with
 | 0, _ =>
  show acr t (min t.v1 t.v2) (max t.v1 t.v2) = _
  refine acr_at (k := 0) (by decide) ⟨?_, ?_⟩ (fun j hj => absurd hj (Nat.not_lt_zero _)) <;> show t.v0 ≠ _ <;> omega
 | 1, _ =>
  show acr t (min t.v2 t.v0) (max t.v2 t.v0) = _
  refine acr_at (k := 1) (by decide) ⟨?_, ?_⟩ (fun j hj => ?_)
  ·show t.v1 ≠ _; omega
  ·show t.v1 ≠ _; omega
  ·obtain rfl : j = 0 := by omega
   show ¬ (t.v0 ≠ _ ∧ t.v0 ≠ _)
   omega
 | 2, _ =>
  show acr t (min t.v0 t.v1) (max t.v0 t.v1) = _
  refine acr_at (k := 2) (by decide) ⟨?_, ?_⟩ (fun j hj => ?_)
  ·show t.v2 ≠ _; omega
  ·show t.v2 ≠ _; omega
  ·rcases (show j = 0 ∨ j = 1 by omega) with rfl | rfl
   ·show ¬ (t.v0 ≠ _ ∧ t.v0 ≠ _)
    omega
   ·show ¬ (t.v1 ≠ _ ∧ t.v1 ≠ _)
    omega
structure InitOk (W H : Nat) (f : Nat → Bool) (M : MD) (V : List (Nat × T3)) (p : Int × Int) (kd pa pb : Int) (n0 n1 : Nat) (t0 : Tr) (q0 : List Nat) : Prop where
 pl : look M.pts M.tris p = (kd, (n0 : Int), pa, pb)
 ht0 : M.tris[n0]? = some t0
 hn1 : kd = 1 → acr t0 pa pb = (n1 : Int)
 hq0 : q0 = if kd = 1 then [n0, n1] else [n0]
 lv : ∀ x, x ∈ q0 → lvT M.tris x
 nd : q0.Nodup
 ed : kd = 1 → ∃ k, k < 3 ∧ pa = min (t0.v ((k + 1) % 3)) (t0.v ((k + 2) % 3)) ∧ pb = max (t0.v ((k + 1) % 3)) (t0.v ((k + 2) % 3)) ∧ t0.n k = (n1 : Int) ∧ 0 ≤ pa
 dd : dist3 (t0.v0, t0.v1, t0.v2)
 alt : (kd = 1 ∧ ∃ v0 k, PlIn W H f M V p n0 n1 v0 k) ∨ (kd = 3 ∧ ¬ inBox W H p ∧ ∃ v0, PlOut W H f M V p n0 v0)
theorem GM.init (h : GM F W H f M V) (hW : W = 1 ∨ W = 2) (hH : H = 1 ∨ H = 2) (hne : (look M.pts M.tris p).1 ≠ 2) : ∃ kd pa pb n0 n1 t0 q0, InitOk W H f M V p kd pa pb n0 n1 t0 q0 := by
 by_cases hb : inBox W H p
 ·obtain ⟨n0, n1, v0, k, hI⟩ := h.pl_in hW hH hb hne
  obtain ⟨t, ht, hv⟩ := h.lm.get hI.y0
  dsimp only at ht hv
  obtain ⟨y, hy, hy1, j, hj, hje⟩ := hI.y1
  have hV := hI.y0
  rw [← hv] at hje hV
  have hd := h.tg.ds _ (List.mem_map.2 ⟨_, hV, rfl⟩)
  obtain ⟨z, hz, jz, hjz, hez, hn, _⟩ := h.lm.across h.tg hV ht hI.hk
  have hzy := (h.lm.un z hz jz hjz y hy j hj (hez.trans hje.symm)).1
  rw [hzy, hy1] at hn
  have hne2 : n0 ≠ n1 := by
   intro e
   have hxy : ((n0, (t.v0, t.v1, t.v2)) : Nat × T3) = y := h.lm.num hV hy (e.trans hy1.symm)
   rw [← hxy] at hje
   exact kv_norev hd hj hI.hk hje
  refine ⟨1, _, _, n0, n1, t, [n0, n1], hI.pl, ht, fun _ => ?_, by rw [if_pos rfl], ?_, ?_, fun _ => ⟨k, hI.hk, ?_, ?_, hn, ?_⟩, hd, .inl ⟨rfl, v0, k, hI⟩⟩
  ·rw [← hv, acr_e hd hI.hk, hn]
  ·intro x hx
   rcases List.mem_cons.1 hx with rfl | hx
   ·exact h.lv hV
   ·rw [List.mem_singleton] at hx
    rw [hx, ← hy1]
    exact h.lv hy
  ·simp [hne2]
  ·rw [← hv, t_kv]
  ·rw [← hv, t_kv]
  ·have hr := hI.rl
   rw [← hv] at hr ⊢
   have hkk : ∀ i, i < 3 → 0 ≤ t.v i := fun i hi => match i, hi with
    | 0, _ => hr.1
    | 1, _ => hr.2.1
    | 2, _ => hr.2.2
   rw [t_kv]
   have := hkk ((k + 1) % 3) (Nat.mod_lt _ (by decide))
   have := hkk ((k + 2) % 3) (Nat.mod_lt _ (by decide))
   dsimp only
   omega
 ·obtain ⟨n0, v0, hO⟩ := h.pl_out hW hH hb
  obtain ⟨t, ht, hv⟩ := h.lm.get hO.y0
  dsimp only at ht hv
  refine ⟨3, 0, 0, n0, 0, t, [n0], hO.pl, ht, (fun q => absurd q (by decide)), (by rw [if_neg (by decide)]), ?_, (by simp), (fun q => absurd q (by decide)), ?_, .inr ⟨rfl, hb, v0, hO⟩⟩
  ·intro x hx
   rw [List.mem_singleton] at hx
   rw [hx]
   exact h.lv hO.y0
  ·rw [hv]
   exact h.tg.ds _ (List.mem_map.2 ⟨_, hO.y0, rfl⟩)
open Classical in
theorem GM.cav_in (h : GM F W H f M V) (hW : W = 1 ∨ W = 2) (hH : H = 1 ∨ H = 2) {n0 n1 k : Nat} {v0 : T3} (hI : PlIn W H f M V p n0 n1 v0 k) {ts : List Nat} (hD : DgOk M.pts M.tris p [n0, n1] ts) :
  ∃ q : T3 → Bool, (∀ n v, (n, v) ∈ V → (n ∈ ts ↔ v ∈ (gAll W H f).filter q)) ∧ okC (gPts W H).length ((gAll W H f).filter q) = true ∧ geoC (gPts W H) p ((gAll W H f).filter q) = true := by
 have hck := hI.ck
 unfold inK at hck
 dsimp only at hck
 obtain ⟨I, hIe⟩ : ∃ I, (gAll W H f).filter (fun x => decide (x = v0) || decide (rev2 (kv v0 k) ∈ eds x)) = I := ⟨_, rfl⟩
 rw [hIe] at hck
 rw [Bool.and_eq_true, Bool.and_eq_true, List.all_eq_true, List.all_eq_true] at hck
 obtain ⟨hg, _, hs⟩ := hck
 obtain ⟨y, hy, hy1, j, hj, hje⟩ := hI.y1
 have hIm : ∀ n v, (n, v) ∈ V → (v ∈ I ↔ n = n0 ∨ n = n1) := by
  intro n v hv
  rw [← hIe, List.mem_filter]
  simp only [Bool.or_eq_true, decide_eq_true_eq]
  constructor
  ·rintro ⟨_, rfl | hm⟩
   ·exact .inl (h.vinj hv hI.y0)
   ·obtain ⟨m, hm3, hme⟩ := mem_edsk.1 hm
    have := (h.lm.un _ hv m hm3 y hy j hj (hme.trans hje.symm)).1
    exact .inr (by rw [← hy1, ← this])
  ·rintro (rfl | rfl)
   ·have := h.lm.num hv hI.y0 rfl
    refine ⟨h.mem_all.2 ⟨_, hv⟩, .inl (congrArg Prod.snd this)⟩
   ·have := h.lm.num hv hy hy1.symm
    refine ⟨h.mem_all.2 ⟨_, hv⟩, .inr (mem_edsk.2 ⟨j, hj, ?_⟩)⟩
    rw [← hje, ← this]
 have hs := hs _ (subs_filter (fun v => decide (∃ n, n ∈ ts ∧ (n, v) ∈ V)) _)
 rw [Bool.and_eq_true] at hs
 refine ⟨_, fun n v hv => ?_, hs.1, hs.2⟩
 rw [List.mem_filter]
 simp only [Bool.or_eq_true, decide_eq_true_eq, List.mem_filter, Bool.and_eq_true, Bool.not_eq_true', decide_eq_false_iff_not]
 constructor
 ·intro hn
  refine ⟨h.mem_all.2 ⟨n, hv⟩, ?_⟩
  have key := hD.mn (fun m => ∃ w, (m, w) ∈ V ∧ (w ∈ I ∨ (rv w ∧ cfV (gPts W H) w p = true))) (fun x hx => ?_) (fun m t hm ht i hi u hu _ hc => ?_) n hn
  ·obtain ⟨w, hw, hc⟩ := key
   have hwv : w = v := congrArg Prod.snd (h.lm.num hw hv rfl)
   subst hwv
   by_cases hi : w ∈ I
   ·exact .inl hi
   ·refine .inr ⟨⟨(h.mem_tris hW hH).2 ⟨(hc.resolve_left hi).1, n, hw⟩, (hc.resolve_left hi).2, hi⟩, n, hn, hw⟩
  ·rcases List.mem_cons.1 hx with rfl | hx
   ·exact ⟨v0, hI.y0, .inl ((hIm _ _ hI.y0).2 (.inl rfl))⟩
   ·rw [List.mem_singleton] at hx
    subst hx
    exact ⟨y.2, by rw [← hy1]; exact hy, .inl ((hIm _ _ (by rw [← hy1]; exact hy)).2 (.inr rfl))⟩
  ·obtain ⟨w, hw⟩ : ∃ w, (u, w) ∈ V := by
    obtain ⟨w0, hw0, _⟩ := hm
    exact h.nb_of hw0 ht hi hu
   have hcv := h.cf hw p
   dsimp only at hcv
   rw [hc] at hcv
   refine ⟨w, hw, ?_⟩
   by_cases hr : rv w
   ·exact .inr ⟨hr, hcv.symm⟩
   ·have := hg w (h.mem_all.2 ⟨u, hw⟩)
    simp only [rvB, Bool.or_eq_true, decide_eq_true_eq, Bool.not_eq_true'] at this
    rcases this with q | q | q
    ·exact absurd q hr
    ·rw [q] at hcv; cases hcv
    ·exact .inl q
 ·rintro ⟨_, hi | ⟨_, m, hm, hmv⟩⟩
  ·rcases (hIm n v hv).1 hi with rfl | rfl
   ·exact hD.ini _ (.head _)
   ·exact hD.ini _ (.tail _ (.head _))
  ·rw [h.vinj hv hmv]
   exact hm
end
theorem flt_gh {F : MapI} {a b : Int} (h : a = -1 ∨ b = -1) : flt F a b = false := by
 unfold flt
 rcases h with rfl | rfl
 ·rfl
 ·rw [decide_eq_false (show ¬ (0 : Int) ≤ -1 by decide)]
  cases decide (0 ≤ a) <;> rfl
section
variable {F : MapI} {W H : Nat} {f : Nat → Bool} {M : MD} {V : List (Nat × T3)} {p : Int × Int}
theorem GM.gh_ok (h : GM F W H f M V) (hW : W = 1 ∨ W = 2) (hH : H = 1 ∨ H = 2) {n : Nat} {v : T3} (hv : (n, v) ∈ V) (hg : ¬ rv v) : v.2.2 = -1 ∧ sdV (gPts W H) W H v < 4 ∧ (0 ≤ v.1 ∧ v.1 < (gPts W H).length) ∧ 0 ≤ v.2.1 ∧ v.2.1 < (gPts W H).length := by
 obtain ⟨h2, hs⟩ := outB_gh hW hH (h.mem_all.2 ⟨n, hv⟩) hg
 have hd := h.tg.ds _ (List.mem_map.2 ⟨_, hv, rfl⟩)
 obtain ⟨d1, d2, d3⟩ := hd
 have k0 := h.vk hv (k := 0) (by decide)
 have k1 := h.vk hv (k := 1) (by decide)
 have e0 : tv v 0 = v.1 := rfl
 have e1 : tv v 1 = v.2.1 := rfl
 dsimp only at k0 k1 d1 d2 d3
 rw [e0] at k0
 rw [e1] at k1
 refine ⟨h2, hs, ?_, ?_⟩
 ·exact k0.resolve_left (by omega)
 ·exact k1.resolve_left (by omega)
theorem GM.cf_out (h : GM F W H f M V) (hW : W = 1 ∨ W = 2) (hH : H = 1 ∨ H = 2) (hp : ¬ inBox W H p) {n : Nat} {v : T3} (hv : (n, v) ∈ V) : cfV (gPts W H) v p = (!rvB v && bySd (decide (p.1 < 0)) (decide (2 * (W : Int) < p.1)) (decide (p.2 < 0)) (decide (2 * (H : Int) < p.2)) (sdV (gPts W H) W H v)) := by
 by_cases hr : rv v
 ·have hvt := vtB_true (f := f) hW hH
  unfold vtB at hvt
  simp only [Bool.and_eq_true, List.all_eq_true] at hvt
  rw [cfV_out (hvt.2.1 _ ((h.mem_tris hW hH).2 ⟨hr, n, hv⟩)) hr hp]
  unfold rvB
  rw [decide_eq_true hr]
  rfl
 ·obtain ⟨h2, hs, hb, ha⟩ := h.gh_ok hW hH hv hr
  rw [cfV_gh hW hH h2 hb ha hs hp]
  unfold rvB
  rw [decide_eq_false hr]
  rfl
theorem GM.cav_out (h : GM F W H f M V) (hW : W = 1 ∨ W = 2) (hH : H = 1 ∨ H = 2) (hp : ¬ inBox W H p) {n0 : Nat} {v0 : T3} (hI : PlOut W H f M V p n0 v0) {ts : List Nat} (hD : DgOk M.pts M.tris p [n0] ts) :
  ∃ q : T3 → Bool, (∀ n v, (n, v) ∈ V → (n ∈ ts ↔ v ∈ (gAll W H f).filter q)) ∧ okC (gPts W H).length ((gAll W H f).filter q) = true ∧ ∀ v, v ∈ (gAll W H f).filter q → ¬ rv v ∧ 0 < A2 (ptAt (gPts W H) v.1).1 (ptAt (gPts W H) v.1).2 (ptAt (gPts W H) v.2.1).1 (ptAt (gPts W H) v.2.1).2 p.1 p.2 := by
 have hck := hI.ck
 unfold outC at hck
 dsimp only at hck
 obtain ⟨K, hKe⟩ : ∃ K, (gAll W H f).filter (fun x => !rvB x && bySd (decide (p.1 < 0)) (decide (2 * (W : Int) < p.1)) (decide (p.2 < 0)) (decide (2 * (H : Int) < p.2)) (sdV (gPts W H) W H x)) = K := ⟨_, rfl⟩
 have hKm : ∀ n v, (n, v) ∈ V → (v ∈ K ↔ cfV (gPts W H) v p = true) := by
  intro n v hv
  rw [← hKe, List.mem_filter, h.cf_out hW hH hp hv]
  exact ⟨fun q => q.2, fun q => ⟨h.mem_all.2 ⟨n, hv⟩, q⟩⟩
 rw [hKe] at hck
 rw [Bool.and_eq_true, Bool.and_eq_true, List.all_eq_true] at hck
 obtain ⟨hok, hre, _⟩ := hck
 have hv0K : v0 ∈ K := by
  rw [← hKe, List.mem_filter]
  refine ⟨h.mem_all.2 ⟨n0, hI.y0⟩, ?_⟩
  unfold rvB
  rw [decide_eq_false hI.gh, hI.by_]
  rfl
 have hrc : ∀ (m : Nat) (R : List T3), (∀ r, r ∈ R → ∃ n, n ∈ ts ∧ (n, r) ∈ V) → ∀ x, x ∈ reach K m R → ∃ n, n ∈ ts ∧ (n, x) ∈ V := by
  intro m
  induction m with
  | zero => exact fun R hR => hR
  | succ m ih =>
   intro R hR
   refine ih _ (fun r hr => ?_)
   rw [List.mem_filter] at hr
   simp only [Bool.or_eq_true, decide_eq_true_eq, List.any_eq_true, Bool.and_eq_true] at hr
   obtain ⟨hrK, hr | ⟨s, hs, e, hes, heg, her⟩⟩ := hr
   ·exact hR r hr
   ·obtain ⟨n, hn, hnV⟩ := hR s hs
    obtain ⟨i, hi, hie⟩ := mem_edsk.1 hes
    obtain ⟨t, ht, _⟩ := h.lm.get hnV
    obtain ⟨y, hy, j, hj, hje, hn2, hfl, _⟩ := h.lm.across h.tg hnV ht hi
    dsimp only at hje hfl
    have hrA : r ∈ gAll W H f := by rw [← hKe] at hrK; exact (List.mem_filter.1 hrK).1
    obtain ⟨z, hz⟩ := h.mem_all.1 hrA
    obtain ⟨l, hl, hle⟩ := mem_edsk.1 her
    have hyz := (h.lm.un y hy j hj _ hz l hl (by rw [hje, hle, hie])).1
    have hyr : y.2 = r := congrArg Prod.snd hyz
    refine ⟨y.1, hD.cl n t hn ht i hi y.1 hn2 ?_ ?_, by rw [← hyr]; exact hy⟩
    ·rw [hfl, hie]
     exact flt_gh heg
    ·rw [h.cf hy, hyr]
     rw [← hyr] at hrK ⊢
     exact (hKm y.1 y.2 hy).1 hrK
 refine ⟨_, fun n v hv => ?_, by rw [hKe]; exact hok, fun v hv => ?_⟩
 ·rw [hKe]
  constructor
  ·intro hn
   have key := hD.mn (fun m => ∃ w, (m, w) ∈ V ∧ w ∈ K) (fun x hx => ?_) (fun m t hm ht i hi u hu _ hc => ?_) n hn
   ·obtain ⟨w, hw, hwK⟩ := key
    have : w = v := congrArg Prod.snd (h.lm.num hw hv rfl)
    rw [← this]
    exact hwK
   ·rw [List.mem_singleton] at hx
    subst hx
    exact ⟨v0, hI.y0, hv0K⟩
   ·obtain ⟨w, hw⟩ : ∃ w, (u, w) ∈ V := by
     obtain ⟨w0, hw0, _⟩ := hm
     exact h.nb_of hw0 ht hi hu
    have hcv := h.cf hw p
    dsimp only at hcv
    rw [hc] at hcv
    exact ⟨w, hw, (hKm u w hw).2 hcv.symm⟩
  ·intro hvK
   have := hre v0 hv0K
   rw [List.all_eq_true] at this
   have := of_decide_eq_true (this v hvK)
   obtain ⟨m, hm, hmV⟩ := hrc 8 [v0] (fun r hr => by
    rw [List.mem_singleton] at hr
    subst hr
    exact ⟨n0, hD.ini _ (.head _), hI.y0⟩) v this
   rw [h.vinj hv hmV]
   exact hm
 ·rw [List.mem_filter] at hv
  simp only [Bool.and_eq_true, rvB, Bool.not_eq_true', decide_eq_false_iff_not] at hv
  obtain ⟨hvA, hvr, hvb⟩ := hv
  refine ⟨hvr, ?_⟩
  obtain ⟨_, hs⟩ := outB_gh hW hH hvA hvr
  have := gh_A2 (p := p) hs
  rw [hvb] at this
  exact of_decide_eq_true this
end
end Go.Proofs.Ytbanlhlggkdanaa
namespace Go.Proofs.Ytbanlhlggkdanaa
open Go.RowKit
theorem flatMap_cong {α β : Type} {f g : α → List β} : ∀ {l : List α}, (∀ x, x ∈ l → f x = g x) → l.flatMap f = l.flatMap g
 | [], _ => rfl
 | x :: l, h => by
  rw [List.flatMap_cons, List.flatMap_cons, h x (.head _), flatMap_cong (fun y hy => h y (.tail _ hy))]
def vOf (tris : List Tr) (x : Nat) : T3 := (vw tris x).getD (0, 0, 0)
def opP (C : List T3) (e : Int × Int) : Bool := !((C.flatMap eds).any fun e' => decide (e' = rev2 e))
theorem opP_iff {C : List T3} {e : Int × Int} : opP C e = true ↔ ¬ rev2 e ∈ C.flatMap eds := by
 unfold opP
 rw [Bool.not_eq_true', ← Bool.not_eq_true, List.any_eq_true]
 constructor
 ·intro h q; exact h ⟨_, q, decide_eq_true rfl⟩
 ·rintro h ⟨x, hx, he⟩
  rw [of_decide_eq_true he] at hx
  exact h hx
theorem sdK3 {tris : List Tr} {q : List Nat} {t : Tr} {x : Nat} {P : Int × Int → Bool} (h : ∀ k, k < 3 → P (kv (t.v0, t.v1, t.v2) k) = !decide ((t.n k).toNat ∈ q)) : (sdK tris q t x 3).map e2 = (eds (t.v0, t.v1, t.v2)).filter P := by
 have h0 := h 0 (by decide)
 have h1 := h 1 (by decide)
 have h2 := h 2 (by decide)
 unfold eds
 rw [List.filter_cons, List.filter_cons, List.filter_cons, List.filter_nil, h0, h1, h2]
 have e : ∀ k, e2 (sdOf tris t x k) = kv (t.v0, t.v1, t.v2) k := fun k => rfl
 unfold sdK
 rw [show List.range 3 = [0, 1, 2] from rfl, List.flatMap_cons, List.flatMap_cons, List.flatMap_cons, List.flatMap_nil]
 by_cases q0 : (t.n 0).toNat ∈ q <;> by_cases q1 : (t.n 1).toNat ∈ q <;> by_cases q2 : (t.n 2).toNat ∈ q <;> simp [q0, q1, q2, e]
theorem mem_sdK {tris : List Tr} {q : List Nat} {t : Tr} {x : Nat} {s : Sd} (h : s ∈ sdK tris q t x 3) : ∃ k, k < 3 ∧ ¬ (t.n k).toNat ∈ q ∧ s = sdOf tris t x k := by
 unfold sdK at h
 rw [List.mem_flatMap] at h
 obtain ⟨k, hk, h⟩ := h
 rw [List.mem_range] at hk
 split at h
 ·cases h
 ·rename_i hn
  rw [List.mem_singleton] at h
  exact ⟨k, hk, hn, h⟩
theorem mem_sdL {tris : List Tr} {q ts : List Nat} {s : Sd} (h : s ∈ sdL tris q ts) : ∃ x t k, x ∈ ts ∧ tris[x]? = some t ∧ k < 3 ∧ ¬ (t.n k).toNat ∈ q ∧ s = sdOf tris t x k := by
 unfold sdL at h
 rw [List.mem_flatMap] at h
 obtain ⟨x, hx, h⟩ := h
 unfold sdT at h
 split at h
 ·rename_i t ht
  obtain ⟨k, h1, h2, h3⟩ := mem_sdK h
  exact ⟨x, t, k, hx, ht, h1, h2, h3⟩
 ·cases h
def SdOk (tris : List Tr) (ts : List Nat) (s : Sd) : Prop := ∃ (u i x : Nat) (o : Tr), s.2.2.1 = (u : Int) ∧ s.2.2.2.1 = (i : Int) ∧ i < 3 ∧ tris[u]? = some o ∧ o.v0 ≠ -2 ∧ ¬ u ∈ ts ∧ o.v ((i + 1) % 3) = s.2.1 ∧ o.v ((i + 2) % 3) = s.1 ∧ o.fl i = s.2.2.2.2 ∧ o.n i = (x : Int) ∧ x ∈ ts
section
variable {F : MapI} {W H : Nat} {f : Nat → Bool} {M : MD} {V : List (Nat × T3)} {p : Int × Int}
theorem GM.vof (h : GM F W H f M V) {n : Nat} {v : T3} (hx : (n, v) ∈ V) : vOf M.tris n = v := by
 have := h.lm.vs _ hx
 dsimp only at this
 unfold vOf
 rw [this]
 rfl
theorem GM.tsC (h : GM F W H f M V) {ts : List Nat} {C : List T3} (hn : ts.Nodup) (hl : ∀ x, x ∈ ts → lvT M.tris x) (hC : C.Nodup) (hCV : ∀ v, v ∈ C → ∃ n, (n, v) ∈ V) (hm : ∀ n v, (n, v) ∈ V → (n ∈ ts ↔ v ∈ C)) : (ts.map (vOf M.tris)).Perm C := by
 refine (List.perm_ext_iff_of_nodup ?_ hC).2 (fun v => ?_)
 ·unfold List.Nodup
  rw [List.pairwise_map]
  refine List.Pairwise.imp_of_mem (fun {a b} ha hb hab e => hab ?_) hn
  obtain ⟨v, hv⟩ := h.of_lv (hl a ha)
  obtain ⟨w, hw⟩ := h.of_lv (hl b hb)
  rw [h.vof hv, h.vof hw] at e
  subst e
  exact h.vinj hv hw
 ·rw [List.mem_map]
  constructor
  ·rintro ⟨x, hx, rfl⟩
   obtain ⟨v, hv⟩ := h.of_lv (hl x hx)
   rw [h.vof hv]
   exact (hm _ _ hv).1 hx
  ·intro hv
   obtain ⟨n, hn⟩ := hCV v hv
   exact ⟨n, (hm _ _ hn).2 hv, h.vof hn⟩
theorem GM.sides (h : GM F W H f M V) {ts : List Nat} {C : List T3} (hn : ts.Nodup) (hl : ∀ x, x ∈ ts → lvT M.tris x) (hC : C.Nodup) (hCV : ∀ v, v ∈ C → ∃ n, (n, v) ∈ V) (hm : ∀ n v, (n, v) ∈ V → (n ∈ ts ↔ v ∈ C)) : ((sdL M.tris ts ts).map e2).Perm (openE C) := by
 have hp := h.tsC hn hl hC hCV hm
 have hx : ∀ x, x ∈ ts → (sdT M.tris ts x).map e2 = (eds (vOf M.tris x)).filter (opP C) := by
  intro x hx
  obtain ⟨t, ht, h0⟩ := hl x hx
  have hV := h.lm.of ht h0
  rw [h.vof hV]
  unfold sdT
  rw [ht]
  dsimp only
  refine sdK3 (fun k hk => ?_)
  obtain ⟨y, hy, j, hj, he, hnk, _⟩ := h.lm.across h.tg hV ht hk
  rw [Bool.eq_iff_iff, opP_iff, Bool.not_eq_true', decide_eq_false_iff_not, hnk, Int.toNat_natCast]
  refine not_congr ?_
  rw [List.mem_flatMap]
  constructor
  ·rintro ⟨w, hw, hew⟩
   obtain ⟨n, hnw⟩ := hCV w hw
   obtain ⟨l, hl3, hle⟩ := mem_edsk.1 hew
   have := (h.lm.un y hy j hj _ hnw l hl3 (by rw [he, hle])).1
   rw [this]
   exact (hm _ _ hnw).2 hw
  ·intro hyt
   exact ⟨y.2, (hm y.1 y.2 hy).1 hyt, mem_edsk.2 ⟨j, hj, he⟩⟩
 have : (sdL M.tris ts ts).map e2 = ((ts.map (vOf M.tris)).flatMap eds).filter (opP C) := by
  unfold sdL
  rw [List.map_flatMap, List.flatMap_map, List.filter_flatMap]
  exact flatMap_cong hx
 rw [this]
 exact (hp.flatMap_right eds).filter _
theorem GM.side (h : GM F W H f M V) (hW : W = 1 ∨ W = 2) (hH : H = 1 ∨ H = 2) {ts : List Nat} (hl : ∀ x, x ∈ ts → lvT M.tris x) {s : Sd} (hs : s ∈ sdL M.tris ts ts) : SdOk M.tris ts s := by
 obtain ⟨x, t, k, hx, ht, hk, hno, rfl⟩ := mem_sdL hs
 have h0 : t.v0 ≠ -2 := by
  obtain ⟨t', ht', h0⟩ := hl x hx
  rw [ht] at ht'
  exact Option.some.inj ht' ▸ h0
 have hV := h.lm.of ht h0
 obtain ⟨y, hy, j, hj, he, hnk, _, o, ho, hov, hon, hof⟩ := h.lm.across h.tg hV ht hk
 dsimp only at he hon
 rw [hnk, Int.toNat_natCast] at hno
 have hu : ∀ m, m < 3 → o.n m = (x : Int) → m = j := by
  intro m hm hmx
  refine Classical.byContradiction fun hne => ?_
  have hoV : (y.1, (o.v0, o.v1, o.v2)) ∈ V := by rw [hov]; exact hy
  obtain ⟨z, hz, l, hl3, hez, hnz, _⟩ := h.lm.across h.tg hoV ho hm
  rw [hmx] at hnz
  have hzx : z = (x, (t.v0, t.v1, t.v2)) := h.lm.num hz hV (by dsimp only; omega)
  rw [hzx] at hez
  dsimp only at hez
  have hvt := vtB_true (f := f) hW hH
  unfold vtB mrB at hvt
  simp only [Bool.and_eq_true, List.all_eq_true] at hvt
  have := hvt.2.2.1 _ (h.mem_all.2 ⟨_, hoV⟩) _ (h.mem_all.2 ⟨_, hV⟩) m (in3' hm) j (in3' hj)
  simp only [Bool.or_eq_true, decide_eq_true_eq, Bool.not_eq_true', decide_eq_false_iff_not] at this
  rcases this with q | q | q
  ·exact hne q
  ·exact q (mem_edsk.2 ⟨l, hl3, hez⟩)
  ·refine q (mem_edsk.2 ⟨k, hk, ?_⟩)
   rw [hov, he]
 have hi : Lib.idxOf [o.n0, o.n1, o.n2] (x : Int) = (j : Nat) := by
  rw [idx3]
  show (if o.n 0 = (x : Int) then (0 : Int) else if o.n 1 = (x : Int) then 1 else if o.n 2 = (x : Int) then 2 else -1) = (j : Nat)
  clear he hnk hy
  match j, hj with
  | 0, _ => rw [if_pos hon]; rfl
  | 1, _ =>
   rw [if_neg (fun q => absurd (hu 0 (by decide) q) (by decide)), if_pos hon]; rfl
  | 2, _ =>
   rw [if_neg (fun q => absurd (hu 0 (by decide) q) (by decide)), if_neg (fun q => absurd (hu 1 (by decide) q) (by decide)), if_pos hon]; rfl
 have he1 : kv (o.v0, o.v1, o.v2) j = rev2 (kv (t.v0, t.v1, t.v2) k) := by rw [hov, he]
 rw [t_kv, t_kv, Prod.mk.injEq] at he1
 refine ⟨y.1, j, x, o, hnk, ?_, hj, ho, ?_, hno, he1.1, he1.2, hof, hon, hx⟩
 ·unfold sdOf
  dsimp only
  rw [hnk, Int.toNat_natCast, ho]
  exact hi
 ·have := h.tg.ne2 hy (by decide : 0 < 3)
  rw [← hov] at this
  exact this
theorem okC_spec {n0 : Int} {C : List T3} (h : okC n0 C = true) : ((openE C).map (·.1)).Nodup ∧ ((List.range (openE C).length).map fun i => itE (openE C) i (minE (openE C) n0)).Nodup ∧ itE (openE C) (openE C).length (minE (openE C) n0) = minE (openE C) n0 ∧ (∀ a, a ∈ ((List.range (openE C).length).map fun i => itE (openE C) i (minE (openE C) n0)) → ∃ e, e ∈ openE C ∧ e.1 = a) ∧ 0 < (openE C).length ∧
  (((openE C).filter fun e => decide (e.1 = -1 ∨ e.2 = -1)).length = 0 ∨ ((openE C).filter fun e => decide (e.1 = -1 ∨ e.2 = -1)).length = 2) := by
 unfold okC at h
 simp only [Bool.and_eq_true, decide_eq_true_eq, List.all_eq_true, List.any_eq_true] at h
 obtain ⟨h1, h2, h3, h4, h5, h6⟩ := h
 exact ⟨h1, h2, h3, h4, h5, h6⟩
structure CavP (pts : List (Int × Int)) (tris : List Tr) (p : Int × Int) (ts : List Nat) : Prop where
 rim : RimP (sdL tris ts ts) (rimOf pts tris p ts)
 cut : cutOf pts tris p ts = (sdL tris ts ts).any fun e => e.2.2.2.2 && cfN pts tris p e.2.2.1.toNat
 sd : ∀ s, s ∈ sdL tris ts ts → SdOk tris ts s
 gh : ((rimOf pts tris p ts).filter fun s => decide (s.1 = -1 ∨ s.2.1 = -1)).length = 0 ∨ ((rimOf pts tris p ts).filter fun s => decide (s.1 = -1 ∨ s.2.1 = -1)).length = 2
 lf : ∀ s, s ∈ rimOf pts tris p ts → s.1 = -1 ∨ s.2.1 = -1 ∨ ((0 ≤ s.1 ∧ s.1 < pts.length) ∧ (0 ≤ s.2.1 ∧ s.2.1 < pts.length) ∧ 0 < A2 (ptAt pts s.1).1 (ptAt pts s.1).2 (ptAt pts s.2.1).1 (ptAt pts s.2.1).2 p.1 p.2)
 ar : (∀ x, x ∈ ts → isReal tris (x : Int)) → (∀ s, s ∈ rimOf pts tris p ts → (0 ≤ s.1 ∧ s.1 < pts.length) ∧ (0 ≤ s.2.1 ∧ s.2.1 < pts.length)) ∧ (ts.map fun x => A2p pts (vOf tris x).1 (vOf tris x).2.1 (vOf tris x).2.2).sum = ((rimOf pts tris p ts).map fun s => A2 p.1 p.2 (ptAt pts s.1).1 (ptAt pts s.1).2 (ptAt pts s.2.1).1 (ptAt pts s.2.1).2).sum ∧ (rimOf pts tris p ts).length = ts.length + 2
theorem GM.cavC (h : GM F W H f M V) (hW : W = 1 ∨ W = 2) (hH : H = 1 ∨ H = 2) {ts q0 : List Nat} (hD : DgOk M.pts M.tris p q0 ts) {q : T3 → Bool} (hq : ∀ n v, (n, v) ∈ V → (n ∈ ts ↔ v ∈ (gAll W H f).filter q)) (hok : okC (gPts W H).length ((gAll W H f).filter q) = true)
  (hge : ∀ e, e ∈ openE ((gAll W H f).filter q) → e.1 < 0 ∨ e.2 < 0 ∨ 0 < A2 (ptAt (gPts W H) e.1).1 (ptAt (gPts W H) e.1).2 (ptAt (gPts W H) e.2).1 (ptAt (gPts W H) e.2).2 p.1 p.2)
  (har : (∀ v, v ∈ (gAll W H f).filter q → rv v) → ((((gAll W H f).filter q).map fun v => A2p (gPts W H) v.1 v.2.1 v.2.2).sum = ((openE ((gAll W H f).filter q)).map fun e => A2 p.1 p.2 (ptAt (gPts W H) e.1).1 (ptAt (gPts W H) e.1).2 (ptAt (gPts W H) e.2).1 (ptAt (gPts W H) e.2).2).sum) ∧ (openE ((gAll W H f).filter q)).length = ((gAll W H f).filter q).length + 2) : CavP M.pts M.tris p ts := by
 obtain ⟨C, hCe⟩ : ∃ C, (gAll W H f).filter q = C := ⟨_, rfl⟩
 have hC : C.Nodup := by rw [← hCe]; exact h.all_nd.filter _
 have hCV : ∀ v, v ∈ C → ∃ n, (n, v) ∈ V := fun v hv => by
  rw [← hCe] at hv
  exact h.mem_all.1 (List.mem_filter.1 hv).1
 rw [hCe] at hq hok hge har
 have hn : ts.Nodup := hD.so.imp (fun {a b} q => by omega)
 have hp := h.sides hn hD.lv hC hCV hq
 have ht := h.tsC hn hD.lv hC hCV hq
 obtain ⟨o1, o2, o3, o4, o5, o6⟩ := okC_spec hok
 obtain ⟨r1, r2⟩ := rim_p (cf := cfN M.pts M.tris p) (n0 := (gPts W H).length) hp o1 o2 o3 o4 o5
 have hpl : M.pts.length = (gPts W H).length := by rw [h.pts]
 have hR : RimP (sdL M.tris ts ts) (rimOf M.pts M.tris p ts) := by unfold rimOf dSt; rw [hpl]; exact r1
 have hRE : ((rimOf M.pts M.tris p ts).map e2).Perm (openE C) := (hR.prm.map e2).trans hp
 have hvr : ∀ s, s ∈ rimOf M.pts M.tris p ts → ∃ n v k, (n, v) ∈ V ∧ n ∈ ts ∧ k < 3 ∧ (s.1, s.2.1) = kv v k := by
  intro s hs
  obtain ⟨x, t, k, hx, htt, hk, _, rfl⟩ := mem_sdL (hR.prm.mem_iff.1 hs)
  obtain ⟨t', ht', h0⟩ := hD.lv x hx
  rw [htt] at ht'
  obtain rfl := Option.some.inj ht'
  exact ⟨x, _, k, h.lm.of htt h0, hx, hk, rfl⟩
 refine ⟨hR, ?_, fun s hs => h.side hW hH hD.lv hs, ?_, fun s hs => ?_, fun hre => ⟨fun s hs => ?_, ?_, ?_⟩⟩
 ·unfold cutOf dSt
  rw [hpl]
  exact r2
 ·have := (hRE.filter fun e => decide (e.1 = -1 ∨ e.2 = -1)).length_eq
  rw [List.filter_map, List.length_map] at this
  have e : ((fun e : Int × Int => decide (e.1 = -1 ∨ e.2 = -1)) ∘ e2) = fun s : Sd => decide (s.1 = -1 ∨ s.2.1 = -1) := rfl
  rw [e] at this
  rw [this]
  exact o6
 ·obtain ⟨n, v, k, hv, hnt, hk, he⟩ := hvr s hs
  rw [Prod.mk.injEq] at he
  have a1 : s.1 = -1 ∨ (0 ≤ s.1 ∧ s.1 < (gPts W H).length) := by rw [he.1]; exact h.vk hv (Nat.mod_lt _ (by decide))
  have a2 : s.2.1 = -1 ∨ (0 ≤ s.2.1 ∧ s.2.1 < (gPts W H).length) := by rw [he.2]; exact h.vk hv (Nat.mod_lt _ (by decide))
  have hg := hge _ (hRE.mem_iff.1 (List.mem_map.2 ⟨s, hs, rfl⟩))
  unfold e2 at hg
  dsimp only at hg
  rw [← h.pts] at hg
  rw [hpl]
  rcases a1 with a1 | a1
  ·exact .inl a1
  ·rcases a2 with a2 | a2
   ·exact .inr (.inl a2)
   ·refine .inr (.inr ⟨a1, a2, ?_⟩)
    rcases hg with g | g | g
    ·omega
    ·omega
    ·exact g
 ·obtain ⟨n, v, k, hv, hnt, hk, he⟩ := hvr s hs
  rw [Prod.mk.injEq] at he
  have hr : rv v := (h.lm.real_at hv).1 (hre n hnt)
  have a1 : s.1 = -1 ∨ (0 ≤ s.1 ∧ s.1 < (gPts W H).length) := by rw [he.1]; exact h.vk hv (Nat.mod_lt _ (by decide))
  have a2 : s.2.1 = -1 ∨ (0 ≤ s.2.1 ∧ s.2.1 < (gPts W H).length) := by rw [he.2]; exact h.vk hv (Nat.mod_lt _ (by decide))
  have hkk : ∀ i, i < 3 → 0 ≤ tv v i := fun i hi => match i, hi with
   | 0, _ => hr.1
   | 1, _ => hr.2.1
   | 2, _ => hr.2.2
  have b1 : 0 ≤ s.1 := by rw [he.1]; exact hkk _ (Nat.mod_lt _ (by decide))
  have b2 : 0 ≤ s.2.1 := by rw [he.2]; exact hkk _ (Nat.mod_lt _ (by decide))
  rw [hpl]
  exact ⟨a1.resolve_left (by omega), a2.resolve_left (by omega)⟩
 ·have hre2 : ∀ v, v ∈ C → rv v := fun v hv => by
   obtain ⟨n, hn⟩ := hCV v hv
   exact (h.lm.real_at hn).1 (hre n ((hq _ _ hn).2 hv))
  have := (har hre2).1
  rw [← h.pts] at this
  have q1 := sum_perm (fun v : T3 => A2p M.pts v.1 v.2.1 v.2.2) ht
  rw [List.map_map] at q1
  have q2 := sum_perm (fun e : Int × Int => A2 p.1 p.2 (ptAt M.pts e.1).1 (ptAt M.pts e.1).2 (ptAt M.pts e.2).1 (ptAt M.pts e.2).2) hRE
  rw [List.map_map] at q2
  exact q1.trans (this.trans q2.symm)
 ·have hre2 : ∀ v, v ∈ C → rv v := fun v hv => by
   obtain ⟨n, hn⟩ := hCV v hv
   exact (h.lm.real_at hn).1 (hre n ((hq _ _ hn).2 hv))
  have := (har hre2).2
  have h1 := hRE.length_eq
  have h2 := ht.length_eq
  rw [List.length_map] at h1 h2
  omega
end
section
variable {F : MapI} {W H : Nat} {f : Nat → Bool} {M : MD} {V : List (Nat × T3)} {p : Int × Int}
theorem GM.cavity (h : GM F W H f M V) (hW : W = 1 ∨ W = 2) (hH : H = 1 ∨ H = 2) {kd pa pb : Int} {n0 n1 : Nat} {t0 : Tr} {q0 ts : List Nat} (hI : InitOk W H f M V p kd pa pb n0 n1 t0 q0) (hD : DgOk M.pts M.tris p q0 ts) : CavP M.pts M.tris p ts := by
 have hq := hI.hq0
 rcases hI.alt with ⟨hk, v0, k, hP⟩ | ⟨hk, hb, v0, hP⟩
 ·rw [if_pos hk] at hq
  subst hq
  obtain ⟨q, q1, q2, q3⟩ := h.cav_in hW hH hP hD
  unfold geoC at q3
  simp only [Bool.and_eq_true, Bool.or_eq_true, List.all_eq_true, decide_eq_true_eq] at q3
  refine h.cavC hW hH hD q1 q2 q3.1 (fun hre => ?_)
  rcases q3.2 with g | g
  ·rw [List.any_eq_true] at g
   obtain ⟨v, hv, hg⟩ := g
   simp only [rvB, Bool.not_eq_true', decide_eq_false_iff_not] at hg
   exact absurd (hre v hv) hg
  ·exact g
 ·rw [if_neg (by omega)] at hq
  subst hq
  obtain ⟨q, q1, q2, q3⟩ := h.cav_out hW hH hb hP hD
  refine h.cavC hW hH hD q1 q2 (fun e he => ?_) (fun hre => ?_)
  ·unfold openE at he
   rw [List.mem_filter, List.mem_flatMap] at he
   obtain ⟨⟨v, hv, hev⟩, _⟩ := he
   obtain ⟨hr, hA⟩ := q3 v hv
   have h2 := (outB_gh hW hH (List.mem_filter.1 hv).1 hr).1
   obtain ⟨k, hk3, rfl⟩ := mem_edsk.1 hev
   match k, hk3 with
   | 0, _ => exact .inr (.inl (by show v.2.2 < 0; omega))
   | 1, _ => exact .inl (by show v.2.2 < 0; omega)
   | 2, _ => exact .inr (.inr hA)
  ·exfalso
   obtain ⟨_, _, _, _, o5, _⟩ := okC_spec q2
   obtain ⟨e, he⟩ := List.exists_mem_of_length_pos o5
   unfold openE at he
   rw [List.mem_filter, List.mem_flatMap] at he
   obtain ⟨⟨v, hv, _⟩, _⟩ := he
   exact (q3 v hv).1 (hre v hv)
end
end Go.Proofs.Ytbanlhlggkdanaa
namespace Go.Proofs.Ytbanlhlggkdanaa
open Go.RowKit
def InQ (L : MI) (q : List Nat) : Prop := L.map (fun e => (e.1, e.2.1)) = q.map fun u : Nat => ((u : Int), (1 : Int))
theorem InQ.nil : InQ [] [] := rfl
theorem nxE_q (u : Nat) : ∀ q : List Nat, nxE (q.map fun u : Nat => ((u : Int), (1 : Int))) (u : Int) = if u ∈ q then 1 else 0
 | [] => rfl
 | v :: q => by
  have ih := nxE_q u q
  unfold nxE at ih ⊢
  rw [List.map_cons, List.find?_cons]
  by_cases h : ((v : Int)) = (u : Int)
  ·have : u = v := by omega
   subst this
   simp
  ·dsimp only
   rw [decide_eq_false h]
   dsimp only
   rw [ih]
   have : u ≠ v := by omega
   simp [List.mem_cons, this]
section
variable {L : MI} {q : List Nat} {c u : Nat}
theorem InQ.at (h : InQ L q) (u : Nat) : (mget (u : Int) L).getD 0 = if u ∈ q then 1 else 0 := by
 rw [mget_nx, show L.map (fun e => (e.1, e.2.1)) = _ from h, nxE_q]
theorem InQ.len (h : InQ L q) : L.length = q.length := by
 have := congrArg List.length h
 rw [List.length_map, List.length_map] at this
 exact this
theorem InQ.key (h : InQ L q) (hu : ¬ u ∈ q) : ¬ (u : Int) ∈ L.map (·.1) := by
 have e := congrArg (List.map (·.1)) (show L.map (fun e => (e.1, e.2.1)) = _ from h)
 rw [List.map_map, List.map_map] at e
 have e : L.map (·.1) = q.map fun u : Nat => (u : Int) := e
 rw [e, List.mem_map]
 rintro ⟨v, hv, he⟩
 have : v = u := by omega
 exact hu (this ▸ hv)
theorem InQ.put (h : InQ L q) (hu : ¬ u ∈ q) (c : Nat) : InQ (mput (u : Int) 1 L c) (q ++ [u]) := by
 unfold InQ
 rw [mput_new (h.key hu), List.map_append, List.map_append, show L.map (fun e => (e.1, e.2.1)) = _ from h]
 rfl
theorem getD_mapI {o : Option Int} : (o.map gI).getD (.int .i64 0) = .int .i64 (o.getD 0) := by cases o <;> rfl
theorem InQ.val (h : InQ L q) (u : Nat) : ((mget (u : Int) L).map gI).getD (.int .i64 0) = .int .i64 (if u ∈ q then 1 else 0) := by
 rw [getD_mapI, h.at]
end
structure Tk (pts : List (Int × Int)) (tris : List Tr) (p : Int × Int) (I q : List Nat) : Prop where
 nd : q.Nodup
 lv : ∀ x, x ∈ q → lvT tris x
 ini : ∀ x, x ∈ I → x ∈ q
 mn : ∀ D : Nat → Prop, (∀ x, x ∈ I → D x) → clD pts tris p D → ∀ x, x ∈ q → D x
def clT (pts : List (Int × Int)) (tris : List Tr) (p : Int × Int) (q : List Nat) (k i : Nat) : Prop :=
 ∀ (x : Nat) (t : Tr), x ∈ q → tris[x]? = some t → ∀ m, m < 3 → (x < k ∨ x = k ∧ m < i) → ∀ u : Nat, t.n m = (u : Int) → t.fl m = false → cfN pts tris p u = true → u ∈ q
section
variable {pts : List (Int × Int)} {tris : List Tr} {p : Int × Int} {I q : List Nat} {k i : Nat}
theorem Tk.start (h1 : I.Nodup) (h2 : ∀ x, x ∈ I → lvT tris x) : Tk pts tris p I I := ⟨h1, h2, fun _ h => h, fun _ h _ => h⟩
theorem clT.start : clT pts tris p q 0 0 := fun x t _ _ m _ h => absurd h (by omega)
theorem clT.skip (h : clT pts tris p q k i) {t : Tr} {u : Nat} (ht : tris[k]? = some t) (hu : t.n i = (u : Int)) (hs : u ∈ q ∨ t.fl i = true ∨ cfN pts tris p u = false) : clT pts tris p q k (i + 1) := by
 intro x s hx hs' m hm hj w hw hf hc
 by_cases e : x = k ∧ m = i
 ·obtain ⟨rfl, rfl⟩ := e
  rw [ht] at hs'
  obtain rfl : t = s := Option.some.inj hs'
  have huw : u = w := by omega
  subst huw
  rcases hs with g | g | g
  ·exact g
  ·rw [g] at hf; cases hf
  ·rw [g] at hc; cases hc
 ·exact h x s hx hs' m hm (by omega) w hw hf hc
theorem clT.next (h : clT pts tris p q k 3) : clT pts tris p q (k + 1) 0 := fun x t hx ht m hm hj => h x t hx ht m hm (by omega)
theorem Tk.push (h : Tk pts tris p I q) {t : Tr} {u : Nat} (hi : i < 3) (hx : k ∈ q) (ht : tris[k]? = some t) (hu : t.n i = (u : Int)) (hn : ¬ u ∈ q) (hl : lvT tris u) (hf : t.fl i = false) (hc : cfN pts tris p u = true) : Tk pts tris p I (q ++ [u]) := by
 refine ⟨?_, ?_, fun y hy => List.mem_append_left _ (h.ini y hy), ?_⟩
 ·rw [List.nodup_append]
  refine ⟨h.nd, by simp, fun a ha b hb => ?_⟩
  rw [List.mem_singleton] at hb
  subst hb
  exact fun e => hn (e ▸ ha)
 ·intro y hy
  rcases List.mem_append.1 hy with hy | hy
  ·exact h.lv y hy
  ·rw [List.mem_singleton] at hy; subst hy; exact hl
 ·intro D hD hcl y hy
  have hq := h.mn D hD hcl
  rcases List.mem_append.1 hy with hy | hy
  ·exact hq y hy
  ·rw [List.mem_singleton] at hy
   subst hy
   exact hcl k t (hq k hx) ht i hi _ hu hf hc
theorem Tk.len (h : Tk pts tris p I q) : q.length ≤ tris.length := by
 have := h.nd.length_le_of_subset (l₂ := List.range tris.length) (fun x hx => by
  obtain ⟨t, ht, _⟩ := h.lv x hx
  exact List.mem_range.2 (List.getElem?_eq_some_iff.1 ht).1)
 rw [List.length_range] at this
 exact this
theorem Tk.done (h : Tk pts tris p I q) (hc : clT pts tris p q tris.length 0) {ts : List Nat} (hD : DgOk pts tris p I ts) : (∀ x, x ∈ ts → x ∈ q) ∧ ts.length = q.length := by
 have h1 : ∀ x, x ∈ ts → x ∈ q := hD.mn (· ∈ q) h.ini (fun n t hn ht i hi u hu hf hcf => hc n t hn ht i hi (.inl (List.getElem?_eq_some_iff.1 ht).1) u hu hf hcf)
 have h2 : ∀ x, x ∈ q → x ∈ ts := h.mn (· ∈ ts) hD.ini hD.cl
 have hn : ts.Nodup := hD.so.imp (fun {a b} q => by omega)
 refine ⟨h1, ?_⟩
 have a := hn.length_le_of_subset h1
 have b := h.nd.length_le_of_subset h2
 omega
end
section
variable {κ ν : Type} [DecidableEq κ] {f : κ → Value} {g : ν → Value} {r c : Nat} {l : List (κ × ν × Nat)} {E : Env} {σ : List (Nat × Value)} {μ φ : List Res} {ty : TypeId}
variable {Q : Qt} {ops : Array Oper} {rest : List Oper} {pos : String} {af : Array Edge} {gd : Option (Nat × Bool)}
end
theorem sdK_len (tris : List Tr) (q : List Nat) (t : Tr) (x : Nat) : (sdK tris q t x 3).length ≤ 3 := by
 unfold sdK
 rw [show List.range 3 = [0, 1, 2] from rfl, List.flatMap_cons, List.flatMap_cons, List.flatMap_cons, List.flatMap_nil]
 by_cases q0 : (t.n 0).toNat ∈ q <;> by_cases q1 : (t.n 1).toNat ∈ q <;> by_cases q2 : (t.n 2).toNat ∈ q <;> simp [q0, q1, q2]
theorem sdL_len (tris : List Tr) (q : List Nat) : ∀ ts : List Nat, (sdL tris q ts).length ≤ 3 * ts.length
 | [] => Nat.le_refl _
 | x :: ts => by
  have ih := sdL_len tris q ts
  unfold sdL at ih ⊢
  rw [List.flatMap_cons, List.length_append, List.length_cons]
  have : (sdT tris q x).length ≤ 3 := by
   unfold sdT
   split
   ·exact sdK_len ..
   ·exact Nat.zero_le _
  omega
theorem sd_row : ∀ {l : List Sd} {i : Nat} {e : Sd}, l[i]? = some e → ((sdCells l).drop (i * 5)).take 5 = e.cells
 | [], i, e, h => by simp at h
 | x :: l, 0, e, h => by
  obtain rfl : x = e := Option.some.inj h
  show ((x.cells ++ sdCells l).drop 0).take 5 = _
  rfl
 | x :: l, i + 1, e, h => by
  show ((x.cells ++ sdCells l).drop ((i + 1) * 5)).take 5 = _
  rw [List.drop_append, List.drop_of_length_le (show x.cells.length ≤ (i + 1) * 5 by show 5 ≤ _; omega), List.nil_append, show (i + 1) * 5 - x.cells.length = i * 5 by show (i + 1) * 5 - 5 = _; omega]
  exact sd_row (l := l) h
theorem filT {α : Type} {f : α → Bool} {l : List α} {i : Nat} {e : α} (h : l[i]? = some e) (hp : f e = true) : ((l.take (i + 1)).filter f).length = ((l.take i).filter f).length + 1 := by
 rw [List.take_add_one, h, List.filter_append, List.length_append]
 simp [hp]
theorem filF {α : Type} {f : α → Bool} {l : List α} {i : Nat} {e : α} (h : l[i]? = some e) (hp : f e = false) : ((l.take (i + 1)).filter f).length = ((l.take i).filter f).length := by
 rw [List.take_add_one, h, List.filter_append, List.length_append]
 simp [hp]
end Go.Proofs.Ytbanlhlggkdanaa
namespace Go.Proofs.Ytbanlhlggkdanaa
open Go.RowKit
theorem ent_14 : Enter Try.prog 14 = true := by kernel_rfl
theorem fld_89_1 : fld Try.prog 89 1 = some 1 := by kernel_rfl
theorem run_eqItems_refl {P : Program} {d : Nat} {e : TypeId} (he : tyi P e = some (false, 1)) (xs : List Value) (hx : ∀ v, v ∈ xs → ∀ w, (Op.equalIn (d + 1) e v v).run P w = .ok true w) (w : World) : ∀ (is : List Nat), (∀ i ∈ is, i < xs.length) → (Op.eqItems (d + 1) e 1 xs.toArray xs.toArray is).run P w = .ok true w
 | [], _ => by simp [Op.eqItems]
 | i :: is, h => by
  have h1 := h i (.head _)
  have ih := run_eqItems_refl (d := d) he xs hx w is (fun j hj => h j (.tail _ hj))
  have p1 : (part e xs.toArray (i * 1)).run P w = .ok xs[i] w := run_part1 he (by rw [lget_eq]; simp [h1]) w
  simp only [Op.eqItems, Sem.run_bind, p1, Result.andThen_ok, hx _ (List.getElem_mem h1) w]
  simpa using ih
theorem run_eqArr_refl {P : Program} {t e : TypeId} {i : TypeInfo} (hu : P.underlying t = some (.array 3 e)) (hi : P.info? e = some i) (hs : P.cellsOf e = 1) (he : tyi P e = some (false, 1)) (x y z : Value) (hx : ∀ v, v ∈ [x, y, z] → ∀ w, (Op.equalIn 9998 e v v).run P w = .ok true w) (w : World) :
  (Op.equalIn 9999 t (.agg #[x, y, z]) (.agg #[x, y, z])).run P w = .ok true w := by
 rw [show (9999 : Nat) = 9998 + 1 from rfl, run_equalIn_array w 9998 _ _ hu hi, hs]
 exact run_eqItems_refl (d := 9997) he [x, y, z] hx w (List.range 3) (fun i hi => by simpa using hi)
theorem info_bool : ∃ i, Try.prog.info? 4 = some i := Option.isSome_iff_exists.1 (by kernel_rfl)
theorem eqs_tri (t : Tr) (x y : Operand) (w : World) :
  (do eqGuard .neq 37 x y (.agg #[.int .i64 t.v0, .int .i64 t.v1, .int .i64 t.v2, .int .i64 t.n0, .int .i64 t.n1, .int .i64 t.n2, .bool t.f0, .bool t.f1, .bool t.f2]) (.agg #[.int .i64 t.v0, .int .i64 t.v1, .int .i64 t.v2, .int .i64 t.n0, .int .i64 t.n1, .int .i64 t.n2, .bool t.f0, .bool t.f1, .bool t.f2]); binOp .neq 37 (.agg #[.int .i64 t.v0, .int .i64 t.v1, .int .i64 t.v2, .int .i64 t.n0, .int .i64 t.n1, .int .i64 t.n2, .bool t.f0, .bool t.f1, .bool t.f2]) (.agg #[.int .i64 t.v0, .int .i64 t.v1, .int .i64 t.v2, .int .i64 t.n0, .int .i64 t.n1, .int .i64 t.n2, .bool t.f0, .bool t.f1, .bool t.f2]) : Sem Value).run Try.prog w = .ok (.bool false) w := by
 have hf : Try.prog.underlying 37 = some (.struct (Try.prog.fieldsOf 37)) := by kernel_rfl
 simp only [Sem.run_bind]
 rw [run_eqGuard_agg w .neq 37 x y _ _ (by kernel_rfl)]
 simp only [Result.andThen_ok, run_neq_struct]
 rw [show (10000 : Nat) = 9999 + 1 from rfl, run_equalIn_agg w 9999 37 _ _ hf (by kernel_rfl)]
 obtain ⟨i, hi⟩ := info_int
 obtain ⟨j, hj⟩ := info_bool
 have r1 : ∀ (a b c : Int) (w : World), (Op.equalIn 9999 34 (.agg #[.int .i64 a, .int .i64 b, .int .i64 c]) (.agg #[.int .i64 a, .int .i64 b, .int .i64 c])).run Try.prog w = .ok true w := fun a b c w =>
  run_eqArr_refl (by kernel_rfl) hi (by kernel_rfl) (by kernel_rfl) _ _ _ (fun v hv w => by
   simp only [List.mem_cons, List.not_mem_nil, or_false] at hv
   rcases hv with rfl | rfl | rfl <;> rw [show (9998 : Nat) = 9997 + 1 from rfl, run_equalIn_int w 9997 _ .i64 .i64 _ _ (by kernel_rfl)] <;> simp) w
 have r2 : ∀ (a b c : Bool) (w : World), (Op.equalIn 9999 35 (.agg #[.bool a, .bool b, .bool c]) (.agg #[.bool a, .bool b, .bool c])).run Try.prog w = .ok true w := fun a b c w =>
  run_eqArr_refl (by kernel_rfl) hj (by kernel_rfl) (by kernel_rfl) _ _ _ (fun v hv w => by
   simp only [List.mem_cons, List.not_mem_nil, or_false] at hv
   rcases hv with rfl | rfl | rfl <;> rw [show (9998 : Nat) = 9997 + 1 from rfl, run_equalIn_bool w 9997 _ _ _ (by kernel_rfl)] <;> simp) w
 simp [go_sem, r1, r2]
set_option maxRecDepth 100000 in
set_option maxHeartbeats 32000000 in
theorem cavityStars_c {v fa x y : Int} (hv : 0 ≤ v ∧ v < 4294967296) (hf : 0 ≤ fa ∧ fa < 4294967296) : Tri Try.prog 14 [.int .u32 v, .int .u32 fa, ptv x y] [] [] (Ret0 (.bool true)) := by
 refine Tri_of (N := 125) Try.func14 rfl ent_14 rfl rfl ?_
 intro w0 S0 T0
 show CJ _ _ _ [(0, _), (1, _), (2, _)] _ _
 refine CJ_seq ?_
 refine CJ_reg ?_
 refine LJ_box (cs := #[_, _]) rfl rfl rfl rfl ?_
 intro b1
 refine LJ_y rfl rfl (YJ_assign rfl) ?_
 refine LJ_nil ?_
 refine QJ_then ?_
 refine CJ_seq ?_
 refine CJ_seq ?_
 refine CJ_reg ?_
 refine LJ_call0 rfl rfl rfl rfl rfl fit11_c (fun _ h => nomatch h) ?_
 refine LJ_y rfl rfl (YJ_not rfl) ?_
 refine LJ_nil ?_
 refine QJ_then ?_
 refine CJ_condF rfl ?_
 refine CJ_skip ?_
 refine QJ_then ?_
 refine CJ_seq ?_
 refine CJ_reg ?_
 refine LJ_y rfl rfl (YJ_move rfl) ?_
 refine LJ_y rfl rfl (YJ_move rfl) ?_
 refine LJ_y rfl rfl (YJ_loadN (vs := [_, _]) rfl tyi_23 m0 rfl rfl) ?_
 refine LJ_callX rfl rfl rfl rfl rfl (made11_c hv hf) (fun _ h => nomatch h) ?_
 rintro ⟨B9, M9, hm, gT⟩ ⟨F9, V9, hG, hmF, hmA, hmT⟩
 dsimp only at hG hmF hmA hmT
 have hgp := (gPts_ok (gW_or (v / 256)) (gW_or (v / 512))).2
 have hgl := (gPts_ok (gW_or (v / 256)) (gW_or (v / 512))).1
 rw [← hG.pts] at hgp hgl
 have hP : ∀ j, j < M9.pts.length → P2 (M9.pts.getD j (0, 0)).1 (M9.pts.getD j (0, 0)).2 := by
  intro j hj
  have := hgp (M9.pts.getD j (0, 0)) (by rw [List.getD_eq_getElem?_getD, List.getElem?_eq_getElem hj]; exact List.getElem_mem hj)
  exact ⟨⟨by omega, by omega⟩, ⟨by omega, by omega⟩⟩
 have hlen100 : M9.tris.length ≤ 100 := hG.len
 have hlen : M9.tris.length ≤ 1000000 := Nat.le_trans hG.len (by decide)
 have hpl : M9.pts.length ≤ 1000000 := Nat.le_trans hgl (by decide)
 have hal : M9.ats.length ≤ 1000000 := by
  rw [hG.ats, ← hG.pts]
  exact hpl
 obtain ⟨z9, hz9⟩ : ∃ z, look M9.pts M9.tris (tm x, tm y) = z := ⟨_, rfl⟩
 obtain ⟨kd, zn, pa, pb⟩ := z9
 dsimp only
 rw [hz9]
 dsimp only [plV]
 refine LJ_y rfl rfl (YJ_move rfl) ?_
 refine LJ_y rfl rfl (YJ_extract rfl rfl) ?_
 refine LJ_y rfl rfl (YJ_extract rfl rfl) ?_
 refine LJ_y rfl rfl (YJ_extract rfl rfl) ?_
 refine LJ_y rfl rfl (YJ_extract rfl rfl) ?_
 refine LJ_alloc (cs := #[_, _, _, _]) rfl rfl zer_42 rfl ?_
 intro b2
 refine LJ_y rfl rfl (YJ_assign rfl) ?_
 refine LJ_store (cs' := #[_, _]) (μ' := [_, _]) 1 rfl rfl rfl rfl tyi_23 rfl (Nat.le_of_ble_eq_true rfl) rfl rfl rfl ?_
 refine LJ_store (cs' := #[_, _, _, _]) (μ' := [_, _]) 0 rfl rfl rfl rfl tyi_42 rfl (Nat.le_of_ble_eq_true rfl) rfl rfl rfl ?_
 refine LJ_y rfl rfl (YJ_assign rfl) ?_
 refine LJ_nil ?_
 refine QJ_then ?_
 refine CJ_seq ?_
 refine CJ_seq ?_
 refine CJ_reg ?_
 refine LJ_y rfl rfl (YJ_move rfl) ?_
 refine LJ_y rfl rfl (YJ_not rfl) ?_
 refine LJ_nil ?_
 refine QJ_then ?_
 refine CJ_cond rfl (fun h28 => ?_) (fun h28 => ?_)
 ·simp only [decide_eq_true_eq, Bool.not_eq_true', Bool.not_eq_false'] at h28
  refine CJ_seq ?_
  refine CJ_reg ?_
  refine LJ_y rfl rfl (YJ_assign rfl) ?_
  refine LJ_nil ?_
  refine QJ_then ?_
  refine CJ_ret ?_
  refine QJ_then_ret ?_
  refine QJ_fin (.inl rfl) (μ' := []) (μr := _) (φ' := []) (res_tmp rfl rfl) (List.Perm.refl _) (fun _ h => nomatch h) ?_
  exact ⟨rfl, rfl, rfl⟩
 ·simp only [decide_eq_false_iff_not, Bool.not_eq_true', Bool.not_eq_false'] at h28
  obtain ⟨kd9, pa9, pb9, n0, n1, t0, q0, hI⟩ := hG.init (p := (tm x, tm y)) (gW_or _) (gW_or _) (by rw [hz9]; exact h28)
  have hpl9 := hz9.symm.trans hI.pl
  rw [Prod.mk.injEq, Prod.mk.injEq, Prod.mk.injEq] at hpl9
  obtain ⟨rfl, rfl, rfl, rfl⟩ := hpl9
  have hn0l := (List.getElem?_eq_some_iff.1 hI.ht0).1
  have hMs := hG.ms
  refine CJ_skip ?_
  refine QJ_then ?_
  refine CJ_seq ?_
  refine CJ_reg ?_
  refine LJ_y rfl rfl (YJ_move rfl) ?_
  refine LJ_callP (μ1 := []) (μr := [_, _]) (permI [] rfl) rfl rfl rfl rfl rfl (copy_c (M := M9) (h := hm) hmF hmA hpl hlen (Nat.le_trans hG.frl hlen) hal) (fun r h => List.mem_append_left _ h) ?_
  intro Bc _
  dsimp only [List.cons_append, List.nil_append]
  refine LJ_freezeMesh (fun ho hoF hoA => ?_)
  show LJ _ _ _ _ _ (_ :: _ :: _) _
  refine LJ_y rfl rfl (YJ_assign rfl) ?_
  refine LJ_nil ?_
  refine QJ_then ?_
  refine CJ_seq ?_
  refine CJ_reg ?_
  refine LJ_y rfl rfl (YJ_move rfl) ?_
  refine LJ_y rfl rfl (YJ_loadN (vs := [_, _]) rfl tyi_23 m1 rfl rfl) ?_
  refine LJ_y rfl rfl (YJ_loadN (vs := [_, _, _, _]) rfl tyi_42 m0 rfl rfl) ?_
  refine LJ_callX rfl rfl rfl rfl rfl (dig_c (h := hm) (pts := M9.pts) (tris := M9.tris) (p1 := tm x) (p2 := tm y) (kd := kd) (pa := pa) (pb := pb) (n0 := n0) (n1 := n1) (q0 := q0) hP (tm_p x y) (by omega) (by omega) hmT hMs hI.ht0 hI.hn1 hI.hq0 hI.lv hI.nd) (fun r h => List.mem_append_right _ (frz_mesh r h)) ?_
  rintro ⟨ts, A1, cd1, A2, cd2⟩ hD
  try dsimp only at hD
  dsimp only [List.nil_append]
  have hC := hG.cavity (gW_or _) (gW_or _) hI hD
  have hC1 := hC.rim; have hC2 := hC.cut; have hC3 := hC.sd; have hC4 := hC.gh; have hC5 := hC.lf; have hC6 := hC.ar
  obtain ⟨rim, hrim⟩ : ∃ r, rimOf M9.pts M9.tris (tm x, tm y) ts = r := ⟨_, rfl⟩
  obtain ⟨cut, hcut⟩ : ∃ c, cutOf M9.pts M9.tris (tm x, tm y) ts = c := ⟨_, rfl⟩
  rw [hrim] at hC1 hC4 hC5 hC6
  rw [hcut] at hC2
  try dsimp only at hC5 hC6
  rw [hrim, hcut]
  have htl : ts.length ≤ 100 := by
   have := (show ts.Nodup from hD.so.imp (fun {a b} q => by omega)).length_le_of_subset (l₂ := List.range M9.tris.length) (fun x hx => by
    obtain ⟨t, ht, _⟩ := hD.lv x hx
    exact List.mem_range.2 (List.getElem?_eq_some_iff.1 ht).1)
   rw [List.length_range] at this
   omega
  have hrl : rim.length ≤ 300 := by
   rw [hC1.len]
   have := sdL_len M9.tris ts ts
   omega
  refine LJ_alloc (cs := #[_, _, _]) rfl rfl zer_85 rfl ?_
  intro b3
  refine LJ_store (cs' := #[_, _, _]) (μ' := [_, _, _]) 0 rfl rfl rfl rfl tyi_85 rfl (Nat.le_of_ble_eq_true rfl) rfl rfl rfl ?_
  refine LJ_nil ?_
  refine QJ_then ?_
  refine CJ_seq ?_
  refine CJ_reg ?_
  refine LJ_y rfl rfl (YJ_assign rfl) ?_
  refine LJ_nil ?_
  refine QJ_then ?_
  refine CJ_seq ?_
  refine CJ_seq ?_
  refine CJ_reg ?_
  refine LJ_y rfl rfl (YJ_fieldOwn rfl fld_85_1 rfl) ?_
  refine LJ_y rfl rfl (YJ_loadL rfl tyi_83 m0 rfl) ?_
  refine LJ_y rfl rfl (YJ_len rfl ulen_83 rfl) ?_
  refine LJ_y rfl rfl (YJ_move rfl) ?_
  refine LJ_nil ?_
  refine QJ_then ?_
  refine CJ_block ?_
  refine CJ_loopF (F := fun (i : Nat × Nat) => ⟨[(5, .pointer (some ⟨b1, 0, none⟩)), (7, .pointer (some ⟨B9, 0, none⟩)), (10, .pointer (some ⟨Bc, 0, none⟩)), (12, .int .i64 (i.2 : Nat)), (36, .slice A2 rim.length cd2), (37, .int .i64 rim.length), (38, .int .i64 (i.1 : Nat))], [], []⟩) (I := fun (i : Nat × Nat) => i.1 ≤ rim.length ∧ i.2 = ((rim.take i.1).filter (fun s : Sd => decide (s.1 = -1 ∨ s.2.1 = -1))).length) (m := fun (i : Nat × Nat) => rim.length - i.1) (0, 0) (μr := [_, _, _]) ⟨Nat.zero_le _, rfl⟩ (And.intro rfl (And.intro rfl (And.intro rfl (And.intro rfl (And.intro rfl (And.intro rfl (And.intro rfl (trivial)))))))) (permI [] rfl) (fun _ h => nomatch h) ?_
  rintro ⟨r, g1⟩ ⟨hr, hg1⟩
  try dsimp only at hr
  try dsimp only at hg1
  show CJ _ _ _ [(5, .pointer (some ⟨b1, 0, none⟩)), (7, .pointer (some ⟨B9, 0, none⟩)), (10, .pointer (some ⟨Bc, 0, none⟩)), (12, .int .i64 (g1 : Nat)), (36, .slice A2 rim.length cd2), (37, .int .i64 rim.length), (38, .int .i64 (r : Nat))] (_ :: _ :: _ :: _) _
  refine CJ_seq ?_
  refine CJ_reg ?_
  refine LJ_y rfl rfl (YJ_bin rfl rfl rfl) ?_
  refine LJ_nil ?_
  refine QJ_then ?_
  refine CJ_seq ?_
  refine CJ_cond rfl (fun h39 => ?_) (fun h39 => ?_)
  ·simp only [decide_eq_true_eq] at h39
   obtain ⟨s, hs9⟩ : ∃ s, rim[r]? = some s := ⟨_, List.getElem?_eq_getElem (by omega)⟩
   have hg2 : g1 ≤ r := by
    rw [hg1]
    exact Nat.le_trans (List.length_filter_le _ _) (by rw [List.length_take]; omega)
   have h59 := hC5 s (List.mem_of_getElem? hs9)
   obtain ⟨sA, sB, sO, sI, sF⟩ := s
   dsimp only at h59
   refine CJ_skip ?_
   refine QJ_then ?_
   refine CJ_seq ?_
   refine CJ_block ?_
   refine CJ_seq ?_
   refine CJ_reg ?_
   refine LJ_y rfl rfl (YJ_ixFact (n' := rim.length) rfl rfl elt_83 m1 (by decide) (by omega) (by omega) (by omega)) ?_
   refine LJ_y rfl rfl (YJ_loadFactN (vs := [.int .i64 sA, .int .i64 sB, .int .i64 sO, .int .i64 sI, .bool sF]) (xs := sdCells rim) rfl tyi_89 m1 (sd_row (i := ((r : Nat) : Int).toNat) (by simpa using hs9)) rfl) ?_
   refine LJ_alloc (cs := #[_, _, _, _, _]) rfl rfl zer_89 rfl ?_
   intro b4
   refine LJ_store (cs' := #[.int .i64 sA, .int .i64 sB, .int .i64 sO, .int .i64 sI, .bool sF]) (μ' := [_, _, _, _]) 0 rfl rfl rfl rfl tyi_89 rfl (Nat.le_of_ble_eq_true rfl) rfl rfl rfl ?_
   refine LJ_nil ?_
   refine QJ_then ?_
   refine CJ_seq ?_
   refine CJ_seq ?_
   refine CJ_reg ?_
   refine LJ_y rfl rfl (YJ_fieldOwn rfl fld_89_0 rfl) ?_
   refine LJ_y rfl rfl (YJ_loadL rfl tyi_3 m0 rfl) ?_
   refine LJ_y rfl rfl (YJ_bin rfl rfl rfl) ?_
   refine LJ_y rfl rfl (YJ_move rfl) ?_
   refine LJ_boolC (fun h45 => ?_) (fun h45 => ?_)
   ·simp only [decide_eq_true_eq] at h45
    refine LJ_skip rfl rfl ?_
    refine LJ_skip rfl rfl ?_
    refine LJ_skip rfl rfl ?_
    refine LJ_y rfl rfl (YJ_pickT rfl rfl) ?_
    refine LJ_nil ?_
    refine QJ_then ?_
    refine CJ_condT rfl ?_
    refine CJ_seq ?_
    refine CJ_reg ?_
    refine LJ_y rfl rfl (YJ_move rfl) ?_
    refine LJ_y rfl rfl (YJ_bin rfl rfl (iop_add (by omega))) ?_
    refine LJ_y rfl rfl (YJ_assign rfl) ?_
    refine LJ_nil ?_
    refine QJ_then ?_
    refine CJ_exit ?_
    refine QJ_then_exit ?_
    refine QJ_in_exit ?_
    refine QJ_then ?_
    refine CJ_reg ?_
    refine LJ_y rfl rfl (YJ_bin rfl rfl (iop_add (by omega))) ?_
    refine LJ_y rfl rfl (YJ_move rfl) ?_
    refine LJ_nil ?_
    refine QJ_roundF (F := fun (i : Nat × Nat) => ⟨[(5, .pointer (some ⟨b1, 0, none⟩)), (7, .pointer (some ⟨B9, 0, none⟩)), (10, .pointer (some ⟨Bc, 0, none⟩)), (12, .int .i64 (i.2 : Nat)), (36, .slice A2 rim.length cd2), (37, .int .i64 rim.length), (38, .int .i64 (i.1 : Nat))], [], []⟩) (I := fun (i : Nat × Nat) => i.1 ≤ rim.length ∧ i.2 = ((rim.take i.1).filter (fun s : Sd => decide (s.1 = -1 ∨ s.2.1 = -1))).length) (m := fun (i : Nat × Nat) => rim.length - i.1) (i := (r, g1)) ((r + 1, g1 + 1)) (μd := [_]) ⟨by dsimp only; omega, by dsimp only; rw [filT hs9 (decide_eq_true (.inl h45)), ← hg1]⟩ (by dsimp only; omega) (And.intro rfl (And.intro rfl (And.intro rfl (And.intro rfl (And.intro rfl (And.intro rfl (And.intro rfl (trivial)))))))) (permI [1, 1, 1] rfl) (fun _ h => nomatch h) (fun _ h => h)
   ·simp only [decide_eq_false_iff_not] at h45
    refine LJ_y rfl rfl (YJ_fieldOwn rfl fld_89_1 rfl) ?_
    refine LJ_y rfl rfl (YJ_loadL rfl tyi_3 m0 rfl) ?_
    refine LJ_y rfl rfl (YJ_bin rfl rfl rfl) ?_
    refine LJ_y rfl rfl (YJ_pickF rfl rfl) ?_
    refine LJ_nil ?_
    refine QJ_then ?_
    refine CJ_cond rfl (fun h49 => ?_) (fun h49 => ?_)
    ·simp only [decide_eq_true_eq] at h49
     refine CJ_seq ?_
     refine CJ_reg ?_
     refine LJ_y rfl rfl (YJ_move rfl) ?_
     refine LJ_y rfl rfl (YJ_bin rfl rfl (iop_add (by omega))) ?_
     refine LJ_y rfl rfl (YJ_assign rfl) ?_
     refine LJ_nil ?_
     refine QJ_then ?_
     refine CJ_exit ?_
     refine QJ_then_exit ?_
     refine QJ_in_exit ?_
     refine QJ_then ?_
     refine CJ_reg ?_
     refine LJ_y rfl rfl (YJ_bin rfl rfl (iop_add (by omega))) ?_
     refine LJ_y rfl rfl (YJ_move rfl) ?_
     refine LJ_nil ?_
     refine QJ_roundF (F := fun (i : Nat × Nat) => ⟨[(5, .pointer (some ⟨b1, 0, none⟩)), (7, .pointer (some ⟨B9, 0, none⟩)), (10, .pointer (some ⟨Bc, 0, none⟩)), (12, .int .i64 (i.2 : Nat)), (36, .slice A2 rim.length cd2), (37, .int .i64 rim.length), (38, .int .i64 (i.1 : Nat))], [], []⟩) (I := fun (i : Nat × Nat) => i.1 ≤ rim.length ∧ i.2 = ((rim.take i.1).filter (fun s : Sd => decide (s.1 = -1 ∨ s.2.1 = -1))).length) (m := fun (i : Nat × Nat) => rim.length - i.1) (i := (r, g1)) ((r + 1, g1 + 1)) (μd := [_]) ⟨by dsimp only; omega, by dsimp only; rw [filT hs9 (decide_eq_true (.inr h49)), ← hg1]⟩ (by dsimp only; omega) (And.intro rfl (And.intro rfl (And.intro rfl (And.intro rfl (And.intro rfl (And.intro rfl (And.intro rfl (trivial)))))))) (permI [1, 1, 1] rfl) (fun _ h => nomatch h) (fun _ h => h)
    ·simp only [decide_eq_false_iff_not] at h49
     obtain ⟨⟨ha1, ha2⟩, ⟨hb1, hb2⟩, hA9⟩ := (h59.resolve_left h45).resolve_left h49
     refine CJ_skip ?_
     refine QJ_then ?_
     refine CJ_seq ?_
     refine CJ_regD mix (by kernel_rfl) (fun _ _ _ _ _ h => h) _ _ (fun _ h => h) (fun _ h => h) ?_
     refine AJ_y 0 rfl (by kernel_rfl) (by kernel_rfl) rfl rfl (YJ_move rfl) ?_
     refine AJ_y 1 rfl (by kernel_rfl) (by kernel_rfl) rfl rfl (YJ_nilCheck rfl) ?_
     refine AJ_y 2 rfl (by kernel_rfl) (by kernel_rfl) rfl rfl (YJ_fieldOwn rfl fld_57_0 rfl) ?_
     refine AJ_y 3 rfl (by kernel_rfl) (by kernel_rfl) rfl rfl (YJ_loadFactP (A := some ⟨B9, 0, none⟩) (j := 0) rfl rfl tyi_26 m7 rfl) ?_
     refine AJ_y 4 rfl (by kernel_rfl) (by kernel_rfl) rfl rfl (YJ_fieldOwn rfl fld_89_0 rfl) ?_
     refine AJ_y 5 rfl (by kernel_rfl) (by kernel_rfl) rfl rfl (YJ_loadL rfl tyi_3 m0 rfl) ?_
     refine AJ_y 6 rfl (by kernel_rfl) (by kernel_rfl) rfl rfl (YJ_ixFact (n' := M9.pts.length) rfl rfl elt_26 m8 (by decide) (by omega) (by omega) (by omega)) ?_
     refine AJ_y 7 rfl (by kernel_rfl) (by kernel_rfl) rfl rfl (YJ_loadFactN (vs := [_, _]) (xs := ptCells M9.pts) rfl tyi_23 m8 (ptCells_get (i := (sA).toNat) (by omega)) rfl) ?_
     refine AJ_y 8 rfl (by kernel_rfl) (by kernel_rfl) rfl rfl (YJ_move rfl) ?_
     refine AJ_y 9 rfl (by kernel_rfl) (by kernel_rfl) rfl rfl (YJ_nilCheck rfl) ?_
     refine AJ_y 10 rfl (by kernel_rfl) (by kernel_rfl) rfl rfl (YJ_fieldOwn rfl fld_57_0 rfl) ?_
     refine AJ_y 11 rfl (by kernel_rfl) (by kernel_rfl) rfl rfl (YJ_loadFactP (A := some ⟨B9, 0, none⟩) (j := 0) rfl rfl tyi_26 m7 rfl) ?_
     refine AJ_y 12 rfl (by kernel_rfl) (by kernel_rfl) rfl rfl (YJ_fieldOwn rfl fld_89_1 rfl) ?_
     refine AJ_y 13 rfl (by kernel_rfl) (by kernel_rfl) rfl rfl (YJ_loadL rfl tyi_3 m0 rfl) ?_
     refine AJ_y 14 rfl (by kernel_rfl) (by kernel_rfl) rfl rfl (YJ_ixFact (n' := M9.pts.length) rfl rfl elt_26 m8 (by decide) (by omega) (by omega) (by omega)) ?_
     refine AJ_y 15 rfl (by kernel_rfl) (by kernel_rfl) rfl rfl (YJ_loadFactN (vs := [_, _]) (xs := ptCells M9.pts) rfl tyi_23 m8 (ptCells_get (i := (sB).toNat) (by omega)) rfl) ?_
     refine AJ_y 16 rfl (by kernel_rfl) (by kernel_rfl) rfl rfl (YJ_loadN (vs := [_, _]) rfl tyi_23 m3 rfl rfl) ?_
     refine AJ_call0 17 rfl (by kernel_rfl) rfl rfl rfl rfl rfl (orient_c (hP (sA).toNat (by omega)) (hP (sB).toNat (by omega)) (tm_p x y)) (fun _ h => nomatch h) ?_
     refine AJ_val (v := .int .i64 1) (congrArg (Value.int .i64) (sgn_one.2 hA9)) ?_
     refine AJ_y 18 rfl (by kernel_rfl) (by kernel_rfl) rfl rfl (YJ_bin rfl rfl rfl) ?_
     refine AJ_val (v := .bool false) (by simp) ?_
     refine AJ_done (by kernel_rfl) ?_
     refine QJ_then ?_
     refine CJ_condF rfl ?_
     refine CJ_skip ?_
     refine QJ_in_normal ?_
     refine QJ_then ?_
     refine CJ_reg ?_
     refine LJ_y rfl rfl (YJ_bin rfl rfl (iop_add (by omega))) ?_
     refine LJ_y rfl rfl (YJ_move rfl) ?_
     refine LJ_nil ?_
     refine QJ_roundF (F := fun (i : Nat × Nat) => ⟨[(5, .pointer (some ⟨b1, 0, none⟩)), (7, .pointer (some ⟨B9, 0, none⟩)), (10, .pointer (some ⟨Bc, 0, none⟩)), (12, .int .i64 (i.2 : Nat)), (36, .slice A2 rim.length cd2), (37, .int .i64 rim.length), (38, .int .i64 (i.1 : Nat))], [], []⟩) (I := fun (i : Nat × Nat) => i.1 ≤ rim.length ∧ i.2 = ((rim.take i.1).filter (fun s : Sd => decide (s.1 = -1 ∨ s.2.1 = -1))).length) (m := fun (i : Nat × Nat) => rim.length - i.1) (i := (r, g1)) ((r + 1, g1)) (μd := [_]) ⟨by dsimp only; omega, by dsimp only; rw [filF hs9 (decide_eq_false (fun q => q.elim h45 h49))]; exact hg1⟩ (by dsimp only; omega) (And.intro rfl (And.intro rfl (And.intro rfl (And.intro rfl (And.intro rfl (And.intro rfl (And.intro rfl (trivial)))))))) (permI [1, 1, 1] rfl) (fun _ h => nomatch h) (fun _ h => h)
  ·simp only [decide_eq_false_iff_not] at h39
   have hr9 : r = rim.length := by omega
   rw [hr9, List.take_length] at hg1
   rw [← hg1] at hC4
   refine CJ_exit ?_
   refine QJ_then_exit ?_
   refine QJ_then_exit ?_
   refine QJ_in_exit ?_
   refine QJ_then ?_
   refine CJ_seq ?_
   refine CJ_seq ?_
   refine CJ_reg ?_
   refine LJ_y rfl rfl (YJ_move rfl) ?_
   refine LJ_y rfl rfl (YJ_nilCheck rfl) ?_
   refine LJ_y rfl rfl (YJ_fieldOwn rfl fld_57_1 rfl) ?_
   refine LJ_y rfl rfl (YJ_loadFactP (A := some ⟨B9, 0, none⟩) (j := 1) rfl rfl tyi_54 m7 rfl) ?_
   refine LJ_y rfl rfl (YJ_len rfl ulen_54 rfl) ?_
   refine LJ_y rfl rfl (YJ_move rfl) ?_
   refine LJ_nil ?_
   refine QJ_then ?_
   refine CJ_block ?_
   refine CJ_loopF (F := fun (i : Nat) => ⟨[(5, .pointer (some ⟨b1, 0, none⟩)), (7, .pointer (some ⟨B9, 0, none⟩)), (10, .pointer (some ⟨Bc, 0, none⟩)), (12, .int .i64 (g1 : Nat)), (76, .int .i64 M9.tris.length), (77, .int .i64 (i : Nat))], [], []⟩) (I := fun (i : Nat) => i ≤ M9.tris.length) (m := fun (i : Nat) => M9.tris.length - i) 0 (μr := [_, _, _]) (Nat.zero_le _) (And.intro rfl (And.intro rfl (And.intro rfl (And.intro rfl (And.intro rfl (And.intro rfl (trivial))))))) (permI [] rfl) (fun _ h => nomatch h) ?_
   rintro n hn
   try dsimp only at hn
   show CJ _ _ _ [(5, .pointer (some ⟨b1, 0, none⟩)), (7, .pointer (some ⟨B9, 0, none⟩)), (10, .pointer (some ⟨Bc, 0, none⟩)), (12, .int .i64 (g1 : Nat)), (76, .int .i64 M9.tris.length), (77, .int .i64 (n : Nat))] (_ :: _ :: _ :: _) _
   refine CJ_seq ?_
   refine CJ_reg ?_
   refine LJ_y rfl rfl (YJ_bin rfl rfl rfl) ?_
   refine LJ_nil ?_
   refine QJ_then ?_
   refine CJ_seq ?_
   refine CJ_cond rfl (fun h78 => ?_) (fun h78 => ?_)
   ·simp only [decide_eq_true_eq] at h78
    obtain ⟨t, ht⟩ := get_at h78
    refine CJ_skip ?_
    refine QJ_then ?_
    refine CJ_seq ?_
    refine CJ_block ?_
    refine CJ_seq ?_
    refine CJ_reg ?_
    refine LJ_y rfl rfl (YJ_move rfl) ?_
    refine LJ_y rfl rfl (YJ_assign rfl) ?_
    refine LJ_nil ?_
    refine QJ_then ?_
    refine CJ_seq ?_
    refine CJ_regD mix (by kernel_rfl) (fun _ _ _ _ _ h => h) _ _ (fun _ h => h) (fun _ h => h) ?_
    refine AJ_y 0 rfl (by kernel_rfl) (by kernel_rfl) rfl rfl (YJ_move rfl) ?_
    refine AJ_y 1 rfl (by kernel_rfl) (by kernel_rfl) rfl rfl (YJ_nilCheck rfl) ?_
    refine AJ_y 2 rfl (by kernel_rfl) (by kernel_rfl) rfl rfl (YJ_fieldOwn rfl fld_57_1 rfl) ?_
    refine AJ_y 3 rfl (by kernel_rfl) (by kernel_rfl) rfl rfl (YJ_loadFactP (A := some ⟨B9, 0, none⟩) (j := 1) rfl rfl tyi_54 m7 rfl) ?_
    refine AJ_y 4 rfl (by kernel_rfl) (by kernel_rfl) rfl rfl (YJ_move rfl) ?_
    refine AJ_y 5 rfl (by kernel_rfl) (by kernel_rfl) rfl rfl (YJ_ixFact (n' := M9.tris.length) rfl rfl elt_54 m9 (by decide) (by omega) (by omega) (by omega)) ?_
    refine AJ_y 6 rfl (by kernel_rfl) (by kernel_rfl) rfl rfl (YJ_loadFactN (vs := [.int .i64 t.v0, .int .i64 t.v1, .int .i64 t.v2, .int .i64 t.n0, .int .i64 t.n1, .int .i64 t.n2, .bool t.f0, .bool t.f1, .bool t.f2]) (xs := trCells M9.tris) rfl tyi_37 m9 (trCells_row (cast_idx ht)) rfl) ?_
    refine AJ_y 7 rfl (by kernel_rfl) (by kernel_rfl) rfl rfl (YJ_move rfl) ?_
    refine AJ_y 8 rfl (by kernel_rfl) (by kernel_rfl) rfl rfl (YJ_nilCheck rfl) ?_
    refine AJ_y 9 rfl (by kernel_rfl) (by kernel_rfl) rfl rfl (YJ_fieldOwn rfl fld_57_1 rfl) ?_
    refine AJ_y 10 rfl (by kernel_rfl) (by kernel_rfl) rfl rfl (YJ_loadFactP (A := some ⟨Bc, 0, none⟩) (j := 1) rfl rfl tyi_54 m2 rfl) ?_
    refine AJ_y 11 rfl (by kernel_rfl) (by kernel_rfl) rfl rfl (YJ_move rfl) ?_
    refine AJ_y 12 rfl (by kernel_rfl) (by kernel_rfl) rfl rfl (YJ_ixFact (n' := M9.tris.length) rfl rfl elt_54 m4 (by decide) (by omega) (by omega) (by omega)) ?_
    refine AJ_y 13 rfl (by kernel_rfl) (by kernel_rfl) rfl rfl (YJ_loadFactN (vs := [.int .i64 t.v0, .int .i64 t.v1, .int .i64 t.v2, .int .i64 t.n0, .int .i64 t.n1, .int .i64 t.n2, .bool t.f0, .bool t.f1, .bool t.f2]) (xs := trCells M9.tris) rfl tyi_37 m4 (trCells_row (cast_idx ht)) rfl) ?_
    refine AJ_y 14 rfl (by kernel_rfl) (by kernel_rfl) rfl rfl (YJ_eqs rfl rfl (fun w => eqs_tri t ..)) ?_
    refine AJ_y 15 rfl (by kernel_rfl) (by kernel_rfl) rfl rfl (YJ_move rfl) ?_
    refine AJ_bool (c := false) rfl ?_
    refine AJ_y 16 rfl (by kernel_rfl) (by kernel_rfl) rfl rfl (YJ_move rfl) ?_
    refine AJ_y 17 rfl (by kernel_rfl) (by kernel_rfl) rfl rfl (YJ_nilCheck rfl) ?_
    refine AJ_y 18 rfl (by kernel_rfl) (by kernel_rfl) rfl rfl (YJ_fieldOwn rfl fld_57_1 rfl) ?_
    refine AJ_y 19 rfl (by kernel_rfl) (by kernel_rfl) rfl rfl (YJ_loadFactP (A := some ⟨B9, 0, none⟩) (j := 1) rfl rfl tyi_54 m7 rfl) ?_
    refine AJ_y 20 rfl (by kernel_rfl) (by kernel_rfl) rfl rfl (YJ_move rfl) ?_
    refine AJ_y 21 rfl (by kernel_rfl) (by kernel_rfl) rfl rfl (YJ_ixFact (n' := M9.tris.length) rfl rfl elt_54 m9 (by decide) (by omega) (by omega) (by omega)) ?_
    refine AJ_y 22 rfl (by kernel_rfl) (by kernel_rfl) rfl rfl (YJ_fieldAddr rfl fld_37_0) ?_
    refine AJ_y 23 rfl (by kernel_rfl) (by kernel_rfl) rfl rfl (YJ_ixArrP rfl rfl arrt_34 (by omega) (by omega)) ?_
    refine AJ_y 24 rfl (by kernel_rfl) (by kernel_rfl) rfl rfl (YJ_loadFactP (A := hm.T) (j := n * 9 + 0) rfl (by rw [Addr.add_add, Addr.add_add] <;> (congr 1 <;> omega)) tyi_3 m9 (trCells_get (j := 0) ht (by decide))) ?_
    refine AJ_y 25 rfl (by kernel_rfl) (by kernel_rfl) rfl rfl (YJ_bin rfl rfl rfl) ?_
    refine AJ_y 26 rfl (by kernel_rfl) (by kernel_rfl) rfl rfl (YJ_move rfl) ?_
    refine AJ_boolC (fun h106 => ?_) (fun h106 => ?_)
    ·simp only [decide_eq_false_iff_not, Bool.not_eq_true'] at h106
     refine AJ_y 27 rfl (by kernel_rfl) (by kernel_rfl) rfl rfl (YJ_move rfl) ?_
     refine AJ_y 28 rfl (by kernel_rfl) (by kernel_rfl) rfl rfl (YJ_move rfl) ?_
     refine AJ_y 29 rfl (by kernel_rfl) (by kernel_rfl) rfl rfl (YJ_loadN (vs := [_, _]) rfl tyi_23 m2 rfl rfl) ?_
     refine AJ_y 31 rfl (by kernel_rfl) (by kernel_rfl) rfl rfl (YJ_move rfl) ?_
     refine AJ_y 32 rfl (by kernel_rfl) (by kernel_rfl) rfl rfl (YJ_move rfl) ?_
     refine AJ_y 33 rfl (by kernel_rfl) (by kernel_rfl) rfl rfl (YJ_loadN (vs := [_, _]) rfl tyi_23 m2 rfl rfl) ?_
     refine AJ_call0 30 rfl (by kernel_rfl) rfl rfl rfl rfl rfl (conflict_c (h := hm) hP ht (hMs.ok n t ht h106) (by omega) (tm_p x y)) (fun r h => .tail _ (.tail _ (show _ ∈ frzFs Bc M9 ho ++ (frzFs B9 M9 hm ++ []) from List.mem_append_right _ (frz_mesh r h)))) ?_
     refine AJ_call0 34 rfl (by kernel_rfl) rfl rfl rfl rfl rfl (conflict11_c (h := hm) hP ht (hMs.ok n t ht h106) (by omega) (tm_p x y)) (fun r h => .tail _ (.tail _ (show _ ∈ frzFs Bc M9 ho ++ (frzFs B9 M9 hm ++ []) from List.mem_append_right _ (frz_mesh r h)))) ?_
     refine AJ_y 35 rfl (by kernel_rfl) (by kernel_rfl) rfl rfl (YJ_neb rfl rfl ubool_4) ?_
     refine AJ_val (v := .bool false) (by simp) ?_
     refine AJ_y 36 rfl (by kernel_rfl) (by kernel_rfl) rfl rfl (YJ_pickT rfl rfl) ?_
     refine AJ_y 37 rfl (by kernel_rfl) (by kernel_rfl) rfl rfl (YJ_pickF rfl rfl) ?_
     refine AJ_done (by kernel_rfl) ?_
     refine QJ_then ?_
     refine CJ_condF rfl ?_
     refine CJ_skip ?_
     refine QJ_in_normal ?_
     refine QJ_then ?_
     refine CJ_reg ?_
     refine LJ_y rfl rfl (YJ_bin rfl rfl (iop_add (by omega))) ?_
     refine LJ_y rfl rfl (YJ_move rfl) ?_
     refine LJ_nil ?_
     refine QJ_roundF (F := fun (i : Nat) => ⟨[(5, .pointer (some ⟨b1, 0, none⟩)), (7, .pointer (some ⟨B9, 0, none⟩)), (10, .pointer (some ⟨Bc, 0, none⟩)), (12, .int .i64 (g1 : Nat)), (76, .int .i64 M9.tris.length), (77, .int .i64 (i : Nat))], [], []⟩) (I := fun (i : Nat) => i ≤ M9.tris.length) (m := fun (i : Nat) => M9.tris.length - i) (i := n) (n + 1) (μd := []) (by omega) (by omega) (And.intro rfl (And.intro rfl (And.intro rfl (And.intro rfl (And.intro rfl (And.intro rfl (trivial))))))) (permI [] rfl) (fun _ h => nomatch h) (fun _ h => h)
    ·simp only [decide_eq_true_eq, Bool.not_eq_false'] at h106
     refine AJ_skip 27 rfl (by kernel_rfl) (by kernel_rfl) rfl rfl ?_
     refine AJ_skip 28 rfl (by kernel_rfl) (by kernel_rfl) rfl rfl ?_
     refine AJ_skip 29 rfl (by kernel_rfl) (by kernel_rfl) rfl rfl ?_
     refine AJ_skip 31 rfl (by kernel_rfl) (by kernel_rfl) rfl rfl ?_
     refine AJ_skip 32 rfl (by kernel_rfl) (by kernel_rfl) rfl rfl ?_
     refine AJ_skip 33 rfl (by kernel_rfl) (by kernel_rfl) rfl rfl ?_
     refine AJ_skip 30 rfl (by kernel_rfl) (by kernel_rfl) rfl rfl ?_
     refine AJ_skip 34 rfl (by kernel_rfl) (by kernel_rfl) rfl rfl ?_
     refine AJ_skip 35 rfl (by kernel_rfl) (by kernel_rfl) rfl rfl ?_
     refine AJ_y 36 rfl (by kernel_rfl) (by kernel_rfl) rfl rfl (YJ_pickF rfl rfl) ?_
     refine AJ_y 37 rfl (by kernel_rfl) (by kernel_rfl) rfl rfl (YJ_pickF rfl rfl) ?_
     refine AJ_done (by kernel_rfl) ?_
     refine QJ_then ?_
     refine CJ_condF rfl ?_
     refine CJ_skip ?_
     refine QJ_in_normal ?_
     refine QJ_then ?_
     refine CJ_reg ?_
     refine LJ_y rfl rfl (YJ_bin rfl rfl (iop_add (by omega))) ?_
     refine LJ_y rfl rfl (YJ_move rfl) ?_
     refine LJ_nil ?_
     refine QJ_roundF (F := fun (i : Nat) => ⟨[(5, .pointer (some ⟨b1, 0, none⟩)), (7, .pointer (some ⟨B9, 0, none⟩)), (10, .pointer (some ⟨Bc, 0, none⟩)), (12, .int .i64 (g1 : Nat)), (76, .int .i64 M9.tris.length), (77, .int .i64 (i : Nat))], [], []⟩) (I := fun (i : Nat) => i ≤ M9.tris.length) (m := fun (i : Nat) => M9.tris.length - i) (i := n) (n + 1) (μd := []) (by omega) (by omega) (And.intro rfl (And.intro rfl (And.intro rfl (And.intro rfl (And.intro rfl (And.intro rfl (trivial))))))) (permI [] rfl) (fun _ h => nomatch h) (fun _ h => h)
   ·simp only [decide_eq_false_iff_not] at h78
    refine CJ_exit ?_
    refine QJ_then_exit ?_
    refine QJ_then_exit ?_
    refine QJ_in_exit ?_
    refine QJ_then ?_
    refine CJ_seq ?_
    refine CJ_reg ?_
    refine LJ_y rfl rfl (YJ_move rfl) ?_
    refine LJ_y rfl rfl (YJ_bin rfl rfl rfl) ?_
    refine LJ_y rfl rfl (YJ_move rfl) ?_
    refine LJ_boolC (fun h121 => ?_) (fun h121 => ?_)
    ·simp only [decide_eq_true_eq] at h121
     refine LJ_skip rfl rfl ?_
     refine LJ_skip rfl rfl ?_
     refine LJ_y rfl rfl (YJ_pickT rfl rfl) ?_
     refine LJ_y rfl rfl (YJ_assign rfl) ?_
     refine LJ_nil ?_
     refine QJ_then ?_
     refine CJ_ret ?_
     refine QJ_fin (.inl rfl) (μ' := []) (μr := _) (φ' := []) (res_tmp rfl rfl) (List.Perm.refl _) (fun _ h => nomatch h) ?_
     exact ⟨rfl, rfl, rfl⟩
    ·simp only [decide_eq_false_iff_not] at h121
     refine LJ_y rfl rfl (YJ_move rfl) ?_
     refine LJ_y rfl rfl (YJ_bin rfl rfl rfl) ?_
     refine LJ_y rfl rfl (YJ_pickF rfl rfl) ?_
     refine LJ_y rfl rfl (YJ_assign rfl) ?_
     refine LJ_nil ?_
     refine QJ_then ?_
     refine CJ_ret ?_
     refine QJ_fin (.inl rfl) (μ' := []) (μr := _) (φ' := []) (res_tmp rfl rfl) (List.Perm.refl _) (fun _ h => nomatch h) ?_
     exact ⟨congrArg Value.bool (decide_eq_true (by omega)), rfl, rfl⟩
end Go.Proofs.Ytbanlhlggkdanaa
namespace Go.Proofs.Ytbanlhlggkdanaa
open Go.ChangeShapes Go.WideShapes Go.ChangeAt Go.RowKit Go.Joins
section
variable {H : Type} {enc : TypeId × Value → H} {P : Program}
theorem post_of_below' {f : Func} {s : ChangeSpec} {apart fresh handsOn again : Bool} {W W' : World} {args : Array Value} {v : Value} {ds gs : List (DataW H)} {before pa pv : List MemPlace}
  (hW : DataW.Whole enc P f.params.toList s.vars apart W args.toList ds gs before)
  (hres : ∀ (b : Nat) (sp : Nat → Bool) (hd : Bool), DataW.TrodAll enc P W' b sp hd f.resultTypes.toList (v.resultList f.resultTypes.size) (s.fn H (ds ++ gs)).results [])
  (hargs : ∀ sp : Nat → Bool, (∀ p ∈ before, sp p.block = true) → DataW.TrodAll enc P W' 0 sp true f.params.toList args.toList (s.fn H (ds ++ gs)).args pa)
  (hvars : ∀ sp : Nat → Bool, (∀ p ∈ before, sp p.block = true) → DataW.TrodVars enc P W' sp s.vars (s.fn H (ds ++ gs)).vars pv)
  (hps : before = pa ++ pv) (hb : Below W.heap.size W W')
  (hok : ∀ (j : Nat) (t : TypeId) (r : Value), f.resultTypes[j]? = some t → (v.resultList f.resultTypes.size)[j]? = some r → Value.okWide P W' .any 0 t r) :
  s.post enc P f apart fresh handsOn again W args v W' := by
 have hlt : ∀ p ∈ before, p.block < W.heap.size := fun p hp => hW.lt p hp
 have hold : ∀ p ∈ before, (fun b => decide (b < W.heap.size)) p.block = true := fun p hp => by simpa using hlt p hp
 refine ⟨ds, gs, before, [], pa, pv, hW, hres _ _ _, hargs _ hold, hvars _ hold, World.keptBut_mono (fun p hp => ⟨hp, ?_⟩) (hb.frame (· ∈ before)), fun _ => ?_⟩
 ·rw [hps, List.mem_append] at hp
  exact Or.inr hp
 ·obtain ⟨_, _, _, _, _, hz, hn⟩ := hW
  refine ⟨hok, _, _, ([] ++ pa) ++ pv, ⟨[] ++ pa, pv, trodAll_append (hargs _ (fun _ _ => rfl)) (hres _ _ _), hvars _ (fun _ _ => rfl), rfl, ?_, ?_⟩, ?_⟩
  ·intro b off hp
   have hin : MemPlace.cell b off ∈ before := by rw [hps]; simpa using hp
   rw [hb.frozen (hlt _ hin)]
   exact hz b off hin
  ·intro ha
   have := hn ha
   rw [hps] at this
   simpa using this
  ·intro p hp _
   rw [hps]
   simpa using hp
end
theorem Tri.law {P : Program} {f : FuncId} {args : List Value} {v : Value} (h : Tri P f args [] [] (Ret0 v)) (w : World) :
  Calls P f args.toArray w fun e w' => e = .returned v ∧ Below w.heap.size w w' := by
 refine (h.2 w (fun _ => False) (fun _ => False) (fun _ h => h) (fun r hr => nomatch hr) (fun _ h _ => h) (fun _ h => h.elim)).mono ?_
 rintro e w' ⟨v', μ', φ', he, ⟨rfl, rfl, rfl⟩, hk, -⟩
 exact ⟨he, hk.below (fun _ h => h)⟩
theorem Try.own : ownKnob Try.prog.godebug = none := by kernel_rfl
theorem cellsP : Try.prog.cellsOf 23 = 2 := by kernel_rfl
section
variable {H : Type} {enc : TypeId × Value → H} {w : World} {base b0 : Nat} {spare : Nat → Bool} {held : Bool} {r : Reach} {v : Value} {d : DataW H} {p : List MemPlace}
set_option maxRecDepth 100000 in
theorem open_pt (hv : Value.okWide Try.prog w r b0 23 v) (h : DataW.Trod enc Try.prog w base spare held 23 v d p) :
  ∃ x y : Int, v = .agg #[.int .i64 x, .int .i64 y] ∧ d = .agg [.lit (.int .i64 x), .lit (.int .i64 y)] ∧ p = [] ∧ (Lit.int .i64 x).wf = true ∧ (Lit.int .i64 y).wf = true := by
 obtain ⟨c0, c1, y0, y1, m, rfl, rfl, rfl, hy0, hy1⟩ := open_agg2 Try.underlying23 (by kernel_rfl) cellsP hv h
 obtain ⟨a, e0, rfl, wa⟩ := DataW.trod_int Try.underlying3 hy0
 obtain ⟨b, e1, rfl, wb⟩ := DataW.trod_int Try.underlying3 hy1
 simp at e0 e1
 subst e0 e1
 exact ⟨a, b, rfl, rfl, rfl, wa, wb⟩
set_option maxRecDepth 100000 in
theorem shut_pt {x y : Int} (wa : (Lit.int .i64 x).wf = true) (wb : (Lit.int .i64 y).wf = true) : DataW.Trod enc Try.prog w base spare held 23 (.agg #[.int .i64 x, .int .i64 y]) (.agg [.lit (.int .i64 x), .lit (.int .i64 y)]) [] :=
 shut_agg2 (y0 := (.lit (.int .i64 x), [])) (y1 := (.lit (.int .i64 y), [])) Try.underlying23 (by kernel_rfl) cellsP ⟨1, by simp [DataW.trod, Try.underlying3, wa]⟩ ⟨1, by simp [DataW.trod, Try.underlying3, wb]⟩
end
section
variable {H : Type} {enc : TypeId × Value → H} {w : World} {base b0 : Nat} {spare : Nat → Bool} {held : Bool} {r : Reach} {v : Value} {d : DataW H} {p : List MemPlace}
end
end Go.Proofs.Ytbanlhlggkdanaa
namespace Go.Proofs.Ytbanlhlggkdanaa
open Go.ChangeShapes Go.WideShapes Go.ChangeAt Go.RowKit Go.Joins
theorem u32_b {n : Int} (h : (Lit.int .u32 n).wf = true) : 0 ≤ n ∧ n < 4294967296 := by
 simp [Lit.wf, IntKind.min, IntKind.max] at h
 simp [IntKind.signed, IntKind.bits] at h
 omega
section
variable {H : Type} {enc : TypeId × Value → H} {w : World} {base b0 : Nat} {spare : Nat → Bool} {held : Bool} {r : Reach} {v : Value} {d : DataW H} {p : List MemPlace}
end
end Go.Proofs.Ytbanlhlggkdanaa
