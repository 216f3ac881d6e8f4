/- Own arrays that grow: append, a load, a store, a shorter slice of them. -/
import Derived.Test.YtbanlhlggkdanaaItr
set_option linter.unusedSimpArgs false
set_option linter.unusedVariables false
namespace Go.Proofs.Ytbanlhlggkdanaa
open Go.RowKit

/-- an own array with room behind (what stands there is hidden), or none at all -/
def rowR (e : TypeId) (size : Nat) (A : Option Addr) (n c : Nat) (xs : List Value) : Res where
  p w S := xs.length = n * size ∧ ((A = none ∧ n = 0 ∧ c = 0 ∧ ∀ k, ¬ S k) ∨
    ∃ g cur, A = some ⟨g, 0, none⟩ ∧ (∀ k, S k ↔ k = g) ∧ w.heap[g]? = some (.cells cur e (0, 0)) ∧ n ≤ c ∧ c ≤ maxLen ∧ cur.size = c * size ∧ cur.toList.take (n * size) = xs)
  loc := fun {w w' S} ⟨h, hs⟩ hk => ⟨h, by
    rcases hs with h' | ⟨g, cur, e1, e2, e3, r⟩
    · exact .inl h'
    · exact .inr ⟨g, cur, e1, e2, (hk g ((e2 g).2 rfl)).trans e3, r⟩⟩
  lt := fun {w S k} ⟨h, hs⟩ hk => by
    rcases hs with ⟨_, _, _, h'⟩ | ⟨g, cur, e1, e2, e3, r⟩
    · exact absurd hk (h' k)
    · obtain rfl := (e2 k).1 hk
      exact (Array.getElem?_eq_some_iff.1 e3).1

theorem rowR.cell {e : TypeId} {size n c : Nat} {A : Option Addr} {xs : List Value} {w : World} {S : Nat → Prop} (h : (rowR e size A n c xs).p w S) {j : Nat} {v : Value} (hj : xs[j]? = some v) : w.cell? ((adr A).add j) = some v := by
  obtain ⟨hl, hs⟩ := h
  have h1 : j < xs.length := by
    rcases Nat.lt_or_ge j xs.length with h' | h'
    · exact h'
    · rw [List.getElem?_eq_none h'] at hj; cases hj
  rcases hs with ⟨_, rfl, _⟩ | ⟨g, cur, rfl, _, e3, _, _, _, ht⟩
  · rw [hl] at h1; simp at h1
  · show w.cell? ((⟨g, 0, none⟩ : Addr).add j) = some v
    rw [Addr.add_lit, cell_of_row w g (0 + j) cur e (0, 0) e3]
    rw [← ht, List.getElem?_take] at hj
    split at hj
    · simpa using hj
    · cases hj
/-- such an array reads as a slice does -/
theorem rowR.slice {e : TypeId} {size n c : Nat} {A : Option Addr} {xs : List Value} {w : World} {S : Nat → Prop} (h : (rowR e size A n c xs).p w S) : ∃ S', (sliceR size A n xs).p w S' ∧ ∀ k, S' k → S k := by
  by_cases h0 : xs.length = 0
  · exact ⟨fun _ => False, ⟨h.1, by rw [if_pos h0]; exact fun _ h => h⟩, fun k hk => hk.elim⟩
  · refine ⟨S, ⟨h.1, ?_⟩, fun k hk => hk⟩
    rw [if_neg h0]
    have hc := fun j v hj => rowR.cell h (j := j) (v := v) hj
    rcases h.2 with ⟨_, rfl, _⟩ | ⟨g, cur, rfl, e2, e3, _⟩
    · exact absurd (by simpa using h.1) h0
    · exact ⟨_, rfl, e2, hc⟩

theorem row_append {P : Program} {t ty e : TypeId} {size bytes : Nat} {z : Value} (he : elt P t = some (e, size, bytes)) (hz : zer P e = some z) (hzs : z.cells.size = size) {A : Option Addr} {n c m c' : Nat} {xs news : List Value} {ad : Addr} {w : World} {S1 : Nat → Prop}
    (h : (rowR e size A n c xs).p w S1) (hl : news.length = m * size) (hnews : ∀ j u, news[j]? = some u → w.cell? (ad.add j) = some u) (h1 : ∀ u ∈ news, u.oneCell' = true) (hm : 0 < m) (h63 : n + m ≤ maxLen) (hbytes : (n + m) * bytes ≤ 140737488355328) :
    ∃ A' c2 w' S', (Builtin.append_ #[t, t] ty #[.slice A n c, .slice (some ad) m c']).run P w = .ok (.slice A' (n + m) c2) w' ∧ (rowR e size A' (n + m) c2 (xs ++ news)).p w' S' ∧ Keeps S1 w w' ∧ (∀ k, S' k → S1 k ∨ w.heap.size ≤ k) := by
  unfold elt at he
  cases hu : P.underlying t with
  | none => rw [hu] at he; simp at he
  | some d =>
    rw [hu] at he
    cases d <;> simp at he
    rename_i e'
    obtain ⟨i, hi, rfl, rfl, rfl⟩ := he
    have hz' : i.zero = some z := by
      unfold zer at hz
      rw [hi] at hz
      simpa using hz
    have hsmall : n + m ≤ 9223372036854775807 := by simp only [maxLen] at h63; omega
    have hlen : (xs ++ news).length = (n + m) * i.size := by rw [List.length_append, h.1, hl, Nat.add_mul]
    have grown : ∀ (old : Nat), old < n + m →
        (rowR e' i.size (some ⟨w.heap.size, 0, none⟩) (n + m) (grownCap w (n + m) old e') (xs ++ news)).p (w.drew.alloc (.cells (xs.toArray ++ news.toArray ++ Builtin.zeroCells z.cells (grownCap w (n + m) old e' - (n + m))) e')) (fun k => k = w.heap.size) ∧
        Keeps S1 w (w.drew.alloc (.cells (xs.toArray ++ news.toArray ++ Builtin.zeroCells z.cells (grownCap w (n + m) old e' - (n + m))) e')) := by
      intro old ho
      have hge := grownCap_ge w (n + m) old e'
      have hcm : grownCap w (n + m) old e' ≤ maxLen := grownCap_le_maxLen w (n + m) old e' h63
      refine ⟨⟨hlen, .inr ⟨w.heap.size, _, rfl, fun _ => Iff.rfl, heap_alloc_new w.drew _, hge, hcm, ?_, ?_⟩⟩, ⟨rfl, rfl, rfl, by simp, fun k hk _ => Below.heap_alloc w.drew _ k hk⟩⟩
      · simp only [Array.size_append, List.size_toArray, size_zeroCells, hzs, h.1, hl, ← Nat.add_mul]
        congr 1
        omega
      · simp only [Array.toList_append, List.append_assoc]
        rw [← List.append_assoc, ← hlen]
        exact List.take_left
    have hc := fun j v hj => rowR.cell h (j := j) (v := v) hj
    rcases h.2 with ⟨rfl, rfl, rfl, hS⟩ | ⟨g, cur, rfl, hS, hg, hnc, hcm, hcs, htake⟩
    · have hx : xs = [] := List.eq_nil_of_length_eq_zero (by simpa using h.1)
      subst hx
      have hr := run_append_nil (P := P) w t ty e' i z hu hi hz' ad m c' news hl hnews hm (by omega) (by have hb := hbytes; simp only [Nat.zero_add] at hb; omega)
      have hgr := grown 0 (by omega)
      simp only [Nat.zero_add, List.nil_append, Array.empty_append] at hgr ⊢
      exact ⟨_, _, _, _, hr, hgr.1, hgr.2, fun k hk => .inr (by omega)⟩
    · by_cases hroom : n + m ≤ c
      · have hfit : n * i.size + news.length ≤ cur.size := by rw [hl, hcs, ← Nat.add_mul]; exact Nat.mul_le_mul_right _ hroom
        have hr := run_append_room (P := P) w t ty e' i hu hi g n c cur hg ad m c' news hl hnews h1 hroom hfit
        refine ⟨_, _, _, S1, hr, ⟨hlen, .inr ⟨g, _, rfl, hS, setRow_heap w g cur _ e' _ hg, hroom, hcm, ?_, ?_⟩⟩, ⟨rfl, rfl, rfl, by simp, fun k _ hk => setRow_other w g k _ (fun e => hk ((hS k).2 e))⟩, fun k hk => .inl hk⟩
        · simp only [List.size_toArray, List.length_append, List.length_take, List.length_drop, Array.length_toList]
          omega
        · rw [htake, ← hlen]
          exact List.take_left
      · have hr := run_append_grow (P := P) w t ty e' i z hu hi hz' ⟨g, 0, none⟩ n c xs h.1 (by simpa [adr] using hc) ad m c' news hl hnews (by omega) (by omega) (growslice_fits (by omega) hbytes)
        have hgr := grown c (by omega)
        exact ⟨_, _, _, _, hr, hgr.1, hgr.2, fun k hk => .inr (by omega)⟩

theorem sep1 {r : Res} {w : World} {S : Nat → Prop} (h : r.p w S) : Sep w [r] S := ⟨S, fun _ => False, h, fun _ h => h, fun _ _ h => h, fun _ => by simp⟩
theorem fac0 {w : World} : Fac w [] (fun _ => False) := fun r hr => nomatch hr
section
variable {E : Env} {ty : TypeId} {σ : List (Nat × Value)} {μ φ : List Res}
/-- what is read out of an own array -/
theorem YJ_row {op : Op} {e : TypeId} {size n c : Nat} {A : Option Addr} {xs : List Value} {v : Value} (hm : rowR e size A n c xs ∈ μ) (h : YJ E op ty σ μ (sliceR size A n xs :: φ) v) : YJ E op ty σ μ φ v := fun a w d pos af g hs h1 h2 =>
  h a w d pos af g hs h1 (fun r hr => by
    rcases List.mem_cons.1 hr with rfl | hr
    · obtain ⟨S, hS⟩ := h1 _ hm
      obtain ⟨S', h', _⟩ := rowR.slice hS
      exact ⟨S', h'⟩
    · exact h2 r hr)

/-- what a slice holds can be read: it is a fact, or one's own -/
def Rd (μ φ : List Res) (B : Option Addr) (news : List Value) : Prop := ∀ w, Hold w μ → Hold w φ → ∃ ad, B = some ad ∧ ∀ j u, news[j]? = some u → w.cell? (ad.add j) = some u
theorem Rd_own {b : Nat} {cs : List Value} {t : TypeId} (hm : cellsR b cs.toArray t ∈ μ) : Rd μ φ (some ⟨b, 0, none⟩) cs := fun w h1 _ => by
  obtain ⟨S, h, _⟩ := h1 _ hm
  refine ⟨_, rfl, fun j u hj => ?_⟩
  rw [Addr.add_lit, cell_of_row w b (0 + j) cs.toArray t (0, 0) h]
  simpa using hj
theorem Rd_fact {size n : Nat} {A : Option Addr} {xs : List Value} (hm : sliceR size A n xs ∈ φ) (h0 : 0 < xs.length) : Rd μ φ A xs := fun w _ h2 => by
  obtain ⟨S, h⟩ := h2 _ hm
  exact ⟨adr A, sliceR.some_ h h0, fun j u hj => sliceR.cell h hj⟩
theorem Rd_row {e : TypeId} {size n c : Nat} {A : Option Addr} {xs : List Value} (hm : rowR e size A n c xs ∈ μ) (h0 : 0 < xs.length) : Rd μ φ A xs := fun w h1 _ => by
  obtain ⟨S, h⟩ := h1 _ hm
  obtain ⟨S', h', _⟩ := rowR.slice h
  exact ⟨adr A, sliceR.some_ h' h0, fun j u hj => sliceR.cell h' hj⟩

theorem OJ_append {t e : TypeId} {size bytes : Nat} {z : Value} {x y : Operand} {A B : Option Addr} {n c m c' : Nat} {xs news ys : List Value} {μr : List Res} (he : elt E.P t = some (e, size, bytes)) (hz : zer E.P e = some z) (hzs : z.cells.size = size)
    (hx : oev σ x = some (.slice A n c)) (hy : oev σ y = some (.slice B m c')) (hp : List.Perm μ (rowR e size A n c xs :: μr)) (hrd : Rd μ φ B news) (hl : news.length = m * size) (h1 : news.all (·.oneCell') = true) (hm : 0 < m) (h63 : n + m ≤ 1073741824) (hb : bytes ≤ 65536) (hys : xs ++ news = ys) :
    OJ E (.call { callee := .builtin .append, args := #[x, y], argTypes := #[t, t] }) ty σ μ φ (fun v μ' φ' => ∃ A' c2, v = .slice A' (n + m) c2 ∧ μ' = rowR e size A' (n + m) c2 ys :: μr ∧ φ' = φ) := fun a w d pos af g K Q hs hm0 hK => by
  subst hys
  obtain ⟨ad, rfl, hnews⟩ := hrd w hm0.hold.1 hm0.hold.2
  obtain ⟨S1, T, k1, k2, k3, k4, k5⟩ := hm0.lend (μ1 := [rowR e size A n c xs]) (μr := μr) (φ1 := []) hp (fun _ h => nomatch h)
  obtain ⟨S2, S3, q1, q2, q3, q4⟩ := k1
  have hS : S1 = S2 := funext fun k => propext ⟨fun h => ((q4 k).1 h).resolve_right (q2 k), fun h => (q4 k).2 (.inl h)⟩
  subst hS
  obtain ⟨A', c2, w', S', hr, g1, g2, g3⟩ := row_append (ty := ty) (c' := c') he hz hzs q1 hl hnews (List.all_eq_true.1 h1) hm (by simp only [maxLen]; omega) (by
    have : (n + m) * bytes ≤ 1073741824 * 65536 := Nat.mul_le_mul h63 hb
    omega)
  have : (execOp a.eval ⟨d, .call { callee := .builtin .append, args := #[x, y], argTypes := #[t, t] }, ty, pos, af, g⟩).run E.P w = .ok (.value (.slice A' (n + m) c2)) w' := by
    simp only [execOp, resolve, invoke, builtin, Sem.run_bind, Sem.run_pure, Result.andThen_ok, List.map_toArray, List.map_cons, List.map_nil, hs.ev hx, hs.ev hy, hr]
  unfold Oper.wp
  rw [this, Oper.upon_value]
  refine hK _ _ _ _ ⟨A', c2, rfl, rfl, rfl⟩ (k5 w' [rowR e size A' (n + m) c2 (xs ++ news)] [] g2 ⟨S', fun _ => False, sep1 g1, fac0, fun _ _ h => h, g3, fun _ h => h.elim, fun _ h => h.elim⟩)

/-- a store into an own array -/
theorem OJ_storeRow {t e : TypeId} {x y : Operand} {n c m size off : Nat} {A : Option Addr} {ad : Addr} {v : Value} {ag : Bool} {xs xs' : List Value} {μr : List Res} (hp : List.Perm μ (rowR e size A n c xs :: μr)) (hx : oev σ x = some (.pointer (some ad))) (had : ad = (adr A).add off) (hy : oev σ y = some v)
    (ht : tyi E.P t = some (ag, m)) (hn : v.cells.size = m) (hb : off + m ≤ xs.length) (h1 : v.cells.toList.all (·.oneCell') = true) (hxs : xs.take off ++ (v.cells.toList ++ xs.drop (off + m)) = xs') (hm0 : 0 < xs.length) :
    OJ E (.store t x y) ty σ μ φ (fun _ μ' φ' => μ' = rowR e size A n c xs' :: μr ∧ φ' = φ) := fun a w d pos af g K Q hs hm hK => by
  subst hxs
  subst had
  obtain ⟨S1, T, k1, k2, k3, k4, k5⟩ := hm.lend (μ1 := [rowR e size A n c xs]) (μr := μr) (φ1 := []) hp (fun _ h => nomatch h)
  obtain ⟨S2, S3, q1, q2, q3, q4⟩ := k1
  have hS : S1 = S2 := funext fun k => propext ⟨fun h => ((q4 k).1 h).resolve_right (q2 k), fun h => (q4 k).2 (.inl h)⟩
  subst hS
  obtain ⟨hl, hrow⟩ := q1
  rcases hrow with ⟨_, h0, _⟩ | ⟨g', cur, rfl, hS, hg, hnc, hcm, hcs, htake⟩
  · rw [hl, h0] at hm0; simp at hm0
  · have hle : n * size ≤ cur.size := by rw [hcs]; exact Nat.mul_le_mul_right _ hnc
    have hvl : v.cells.toList.length = m := by rw [Array.length_toList]; exact hn
    obtain ⟨w', e1, e2, e3, e4, e5, e6, e7⟩ := run_storeCells_wr (P := E.P) g' off e v.cells.toList 0 cur w hg (by omega) (List.all_eq_true.1 h1)
    have hadr : (adr (some ⟨g', 0, none⟩)).add off = ⟨g', off, none⟩ := by
      show (⟨g', 0, none⟩ : Addr).add off = _
      rw [Addr.add_lit, Nat.zero_add]
    rw [hadr] at hx
    have : (execOp a.eval ⟨d, .store t x y, ty, pos, af, g⟩).run E.P w = .ok .skip w' := by
      simp only [execOp, hs.ev hx, hs.ev hy]
      simp [Instr.storeAt, Instr.sureAddr, storeVar, run_sizeOf' ht, hn, e1]
    unfold Oper.wp
    rw [this, Oper.upon_skip]
    refine hK undef _ _ _ ⟨rfl, rfl⟩ (k5 w' [rowR e size _ n c (xs.take off ++ (v.cells.toList ++ xs.drop (off + m)))] [] ⟨e4, e5, e6, by omega, fun k hk hn => e3 k (fun e => hn ((hS k).2 e))⟩ ⟨S1, fun _ => False, sep1 ?_, fac0, fun _ _ h => h, fun k hk => .inl hk, fun _ h => h.elim, fun _ h => h.elim⟩)
    refine ⟨?_, .inr ⟨g', _, rfl, hS, e2, hnc, hcm, by rw [wr_size]; exact hcs, ?_⟩⟩
    · rw [← hl]; simp; omega
    · simp only [Nat.add_zero]
      rw [wr_list _ _ _ (by omega), hvl]
      have hxl : xs.length ≤ cur.toList.length := by rw [hl, Array.length_toList]; exact hle
      have h3 : xs.take off = cur.toList.take off := by rw [← htake, List.take_take, Nat.min_eq_left (by omega)]
      have h4 : xs.drop (off + m) = (cur.toList.drop (off + m)).take (n * size - (off + m)) := by rw [← htake, List.drop_take]
      have hl1 : (cur.toList.take off).length = off := by rw [List.length_take]; omega
      have hm2 : off + m ≤ n * size := by rw [← hl]; exact hb
      rw [h3, h4, List.take_append, hl1, List.take_of_length_le (l := cur.toList.take off) (i := n * size) (by rw [hl1]; omega), List.take_append, hvl, List.take_of_length_le (l := v.cells.toList) (i := n * size - off) (by rw [hvl]; omega)]
      congr 3
      omega

/-- a shorter slice of an own array -/
theorem rowR.short {e : TypeId} {size n n' c : Nat} {A : Option Addr} {xs : List Value} (hn : n' ≤ n) {w : World} {S : Nat → Prop} (h : (rowR e size A n c xs).p w S) : (rowR e size A n' c (xs.take (n' * size))).p w S := by
  obtain ⟨hl, hrow⟩ := h
  have hle : n' * size ≤ n * size := Nat.mul_le_mul_right _ hn
  refine ⟨by rw [List.length_take, hl]; omega, ?_⟩
  rcases hrow with ⟨rfl, rfl, rfl, h⟩ | ⟨g', cur, rfl, hS, hg, hnc, hcm, hcs, htake⟩
  · exact .inl ⟨rfl, by omega, rfl, h⟩
  · refine .inr ⟨g', cur, rfl, hS, hg, by omega, hcm, hcs, ?_⟩
    rw [← htake, List.take_take, Nat.min_eq_left hle]
theorem OKm.head {r r' : Res} {w : World} (h : OKm E (r :: μ) φ w) (hr : ∀ w S, r.p w S → r'.p w S) : OKm E (r' :: μ) φ w :=
  h.turn (fun S ⟨S1, S2, a, b⟩ => ⟨S1, S2, hr _ _ a, b⟩) (fun _ h => h)
theorem rowR.none_ (e : TypeId) (size : Nat) {w : World} : (rowR e size none 0 0 []).p w (fun _ => False) := ⟨by simp, .inl ⟨rfl, rfl, rfl, fun _ h => h⟩⟩
theorem OKm.newRow {w : World} (h : OKm E μ φ w) (e : TypeId) (size : Nat) : OKm E (rowR e size none 0 0 [] :: μ) φ w := by
  refine ⟨h.keeps, ?_⟩
  obtain ⟨S, T, h1, h2⟩ := h.mem
  exact ⟨S, T, ⟨fun _ => False, S, rowR.none_ e size, h1, fun _ h => h.elim, fun _ => by simp⟩, h2⟩
/-- an own array that is no longer written is a fact -/
theorem OKm.freezeRow {e : TypeId} {size n c : Nat} {A : Option Addr} {xs : List Value} {w : World} (h : OKm E (rowR e size A n c xs :: μ) φ w) : OKm E μ (sliceR size A n xs :: φ) w :=
  (OKm.addF (r := rowR e size A n c xs) (r' := sliceR size A n xs) h.freeze (.head _) (fun S hS => rowR.slice hS)).turn (fun _ h => h) (fun T hT r hr => hT r (by
    rcases List.mem_cons.1 hr with rfl | hr
    · exact .head _
    · exact .tail _ (.tail _ hr)))
variable {Q : Qt} {ops : Array Oper} {rest : List Oper} {c : Code}
theorem CJ_newRow (e : TypeId) (size : Nat) (h : CJ E Q c σ (rowR e size none 0 0 [] :: μ) φ) : CJ E Q c σ μ φ := fun a w ha hm => h a w ha (hm.newRow e size)
theorem LJ_newRow (e : TypeId) (size : Nat) (h : LJ E Q ops rest σ (rowR e size none 0 0 [] :: μ) φ) : LJ E Q ops rest σ μ φ := fun a w ha hm => h a w ha (hm.newRow e size)
theorem CJ_freezeRow {e : TypeId} {size n k : Nat} {A : Option Addr} {xs : List Value} (h : CJ E Q c σ μ (sliceR size A n xs :: φ)) : CJ E Q c σ (rowR e size A n k xs :: μ) φ := fun a w ha hm => h a w ha hm.freezeRow
/-- one result, of one cell, in a variable of its own -/
theorem res_cell1 {fn : Func} {P : Program} {t : Tmp} {b : Nat} {ct ct' : TypeId} {v : Value} (hfn : fn.results = #[.cell t ct]) (hv : lk t σ = some (.pointer (some ⟨b, 0, none⟩))) (hm : cellsR b #[v] ct' ∈ μ) (ht : tyi P ct = some (false, 1)) :
    ∀ a w, Slots σ a → Hold w μ → Hold w φ → (results fn a.tmps).run P w = .ok v w := fun a w hs hmu _ => by
  obtain ⟨S, h, _⟩ := hmu _ hm
  have h1 := hs t _ hv
  have := run_loadVar1 (P := P) (w := w) (a := ⟨b, 0, none⟩) ht (by rw [cell_of_row w b 0 #[v] ct' (0, 0) h]; rfl)
  simp [results, hfn, h1, asAddr, this]
/-! ### loops with a frame -/
def frF {ι : Type} (F : ι → St) (μr φr : List Res) : ι → St := fun i => ⟨(F i).σ, (F i).μ ++ μr, (F i).φ ++ φr⟩
theorem CJ_loopF {ι : Type} (F : ι → St) (I : ι → Prop) (m : ι → Nat) (i0 : ι) {μr : List Res} (h0 : I i0) (hs : AllLk σ (F i0).σ) (hp : List.Perm μ ((F i0).μ ++ μr)) (hf : ∀ r, r ∈ (F i0).φ → r ∈ φ)
    (h : ∀ i, I i → CJ E (Exit.then (fun a' w' => ∃ j, I j ∧ m j < m i ∧ OKa E (frF F μr φ j).σ a' ∧ OKm E (frF F μr φ j).μ (frF F μr φ j).φ w') Q) c (F i).σ ((F i).μ ++ μr) ((F i).φ ++ φ)) : CJ E Q (.loop c) σ μ φ :=
  CJ_loop (frF F μr φ) I m i0 (μr := []) h0 hs (by simpa [frF] using hp) (fun r hr => (List.mem_append.1 hr).elim (hf r) id) h
theorem RJ_loopF {ι : Type} {l n : Nat} (F : ι → St) (I : ι → Prop) (m : ι → Nat) (i0 : ι) {μr : List Res} (h0 : I i0) (hs : AllLk σ (F i0).σ) (hp : List.Perm μ ((F i0).μ ++ μr)) (hf : ∀ r, r ∈ (F i0).φ → r ∈ φ)
    (h : ∀ i, I i → RJ l n E (Exit.then (fun a' w' => ∃ j, I j ∧ m j < m i ∧ OKa E (frF F μr φ j).σ a' ∧ OKm E (frF F μr φ j).μ (frF F μr φ j).φ w') Q) c (F i).σ ((F i).μ ++ μr) ((F i).φ ++ φ)) : RJ l n E Q (.loop c) σ μ φ :=
  RJ_loop (frF F μr φ) I m i0 (μr := []) h0 hs (by simpa [frF] using hp) (fun r hr => (List.mem_append.1 hr).elim (hf r) id) h
theorem QJ_roundF {ι : Type} {F : ι → St} {I : ι → Prop} {m : ι → Nat} {i : ι} {μr φr : List Res} (j : ι) {μd : List Res} (hI : I j) (hm : m j < m i) (hs : AllLk σ (F j).σ) (hp : List.Perm μ (((F j).μ ++ μr) ++ μd)) (hf1 : ∀ r, r ∈ (F j).φ → r ∈ φ) (hf2 : ∀ r, r ∈ φr → r ∈ φ) :
    QJ E (Exit.then (fun a' w' => ∃ j, I j ∧ m j < m i ∧ OKa E (frF F μr φr j).σ a' ∧ OKm E (frF F μr φr j).μ (frF F μr φr j).φ w') Q) .normal σ μ φ :=
  QJ_round (F := frF F μr φr) j hI hm hs hp (fun r hr => (List.mem_append.1 hr).elim (hf1 r) (hf2 r))
end
end Go.Proofs.Ytbanlhlggkdanaa
